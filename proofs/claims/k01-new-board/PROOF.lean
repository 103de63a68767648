import PyProof.Rows.All
import Wide.All
import OpenK.AllK
import Wide.FinOn
import HandS.ForExc
import HandS.Dict
import HandS.IsInst
import HandS.ExcIs
import HandS.Evl
import KE.RegKIsAll
import PySem.Challenge.RW_sandline_k01_new_board
set_option Elab.async false
set_option linter.all false
set_option maxRecDepth 100000
set_option maxHeartbeats 4000000
/-! SDBase: what a reading evaluates to, told by a property; further words over the hand layer. -/
namespace SD
open PySem PySem.Spec PyProof.Rows L2 Evl

/-! ### an expression's value by a property -/
def EvP (te : TE) (σ : L2.St) (H : Hp) (P : V → Hp → Prop) : Prop := ∀ H1, Ex H H1 → ∀ Q : VK, (∀ v H2, Ex H1 H2 → P v H2 → Q v H2) → te σ H1 Q
def EvAP (ta : TA) (σ : L2.St) (H : Hp) (P : List V → Hp → Prop) : Prop := ∀ H1, Ex H H1 → ∀ Q : List V → Hp → Prop, (∀ v H2, Ex H1 H2 → P v H2 → Q v H2) → ta σ H1 Q
section
variable {K : PySem.W.Frag} {σ : L2.St} {H H' : Hp} {ta tb tc te : TE} {t u : TT} {x y z v : V} {P P' Pa Pb : V → Hp → Prop}
theorem EvP.mono (e : Ex H H') (h : EvP te σ H P) : EvP te σ H' P := fun H1 a Q q => h H1 (e.trans a) Q q
theorem EvP.imp (h : EvP te σ H P) (hp : ∀ v H1, Ex H H1 → P v H1 → P' v H1) : EvP te σ H P' := fun H1 e Q q => h H1 e Q fun v H2 e2 p => q v H2 e2 (hp v H2 (e.trans e2) p)
theorem ep_ev (h : Ev te σ H v) : EvP te σ H (fun w _ => w = v) := fun H1 e Q q => h H1 e Q fun H2 e2 => q v H2 e2 rfl
theorem ev_ep (h : EvP te σ H (fun w _ => w = v)) : Ev te σ H v := fun H1 e Q q => h H1 e Q fun w H2 e2 ew => by
  subst ew
  exact q H2 e2
/-- a new tuple, its items told -/
def NewT (H : Hp) (xs : List V) : V → Hp → Prop := fun v H2 => ∃ p, v = .ref p ∧ H p = none ∧ H2 p = some (.tup xs)
def NewL (H : Hp) (xs : List V) : V → Hp → Prop := fun v H2 => ∃ p, v = .ref p ∧ H p = none ∧ H2 p = some (.lst xs)
theorem ep_U {xs : List V} (h : EvU te σ H xs) : EvP te σ H (NewT H xs) := fun H1 e Q q => h H1 e Q fun p H2 hp e2 h2 => q _ _ e2 ⟨p, rfl, fresh_back e hp, h2⟩
theorem ep_L {xs : List V} (h : EvL te σ H xs) : EvP te σ H (NewL H xs) := fun H1 e Q q => h H1 e Q fun p H2 hp e2 h2 => q _ _ e2 ⟨p, rfl, fresh_back e hp, h2⟩
theorem eap_nil : EvAP tNil σ H (fun vs _ => vs = []) := fun H1 _ _ q => q [] H1 (Ex.refl H1) rfl
theorem eap_ea {tl : TA} {vs : List V} (h : EvA tl σ H vs) : EvAP tl σ H (fun ws _ => ws = vs) := fun H1 e Q q => h H1 e Q fun H2 e2 => q vs H2 e2 rfl
theorem eap_cons {tr : TA} {R : V → List V → Hp → Prop} (h : EvP te σ H P) (hr : ∀ v H1, Ex H H1 → P v H1 → EvAP tr σ H1 (R v)) : EvAP (tCons te tr) σ H (fun vs H2 => ∃ v r, vs = v :: r ∧ R v r H2) :=
  fun H1 e Q q => h H1 e _ fun v H2 e2 p => hr v H2 (e.trans e2) p H2 (Ex.refl H2) _ fun r H3 e3 pr => q (v :: r) H3 (e2.trans e3) ⟨v, r, rfl, pr⟩
theorem EvAP.imp {tl : TA} {R R' : List V → Hp → Prop} (h : EvAP tl σ H R) (hp : ∀ v H1, Ex H H1 → R v H1 → R' v H1) : EvAP tl σ H R' := fun H1 e Q q => h H1 e Q fun v H2 e2 p => q v H2 e2 (hp v H2 (e.trans e2) p)
/-- one argument, told by a property -/
theorem eap_one (h : EvP te σ H P) : EvAP (tCons te tNil) σ H (fun vs H2 => ∃ v, vs = [v] ∧ P v H2) := fun H1 e Q q => h H1 e _ fun v H2 e2 p => q [v] H2 e2 ⟨v, rfl, p⟩
/-- a promise told forwards -/
def SpP (sp : Sp) (vs : List V) (H : Hp) (P : V → Hp → Prop) : Prop := ∀ (Q : VK) (E : XK), (∀ v H2, Ex H H2 → P v H2 → Q v H2) → sp vs H Q E
theorem ep_call {sp : Sp} {dvs : List V} {E : XK} {tl : TA} {A : List V → Hp → Prop} (h : EvAP tl σ H A) (hs : ∀ vs H1, Ex H H1 → A vs H1 → SpP sp (vs ++ dvs) H1 P) : EvP (tCall sp dvs E tl) σ H P := fun H1 e Q q =>
  h H1 e _ fun vs H2 e2 a => hs vs H2 (e.trans e2) a Q E fun v H3 e3 p => q v H3 (e2.trans e3) p
theorem ep_meth {C a dx : Addr} {m : Str} {fs : List (Str × V)} {sp : Sp} {dvs : List V} {E : XK} {tl : TA} {A : List V → Hp → Prop} (ho : Ev ta σ H (.ref a)) (hi : H a = some (.ins C dx fs)) (hn : fs.lookup m = none) (h : EvAP tl σ H A)
    (hs : ∀ vs H1, Ex H H1 → A vs H1 → SpP sp (.ref a :: (vs ++ dvs)) H1 P) : EvP (tMeth C m sp dvs E ta tl) σ H P := fun H1 e Q q =>
  ho H1 e _ fun H2 e2 => ⟨a, dx, fs, rfl, (e.trans e2) a _ hi, hn, h H2 (e.trans e2) _ fun vs H3 e3 p => hs vs H3 ((e.trans e2).trans e3) p Q E fun v H4 e4 pv => q v H4 ((e2.trans e3).trans e4) pv⟩
theorem ev_fld {a C dx : Addr} {fs : List (Str × V)} {f : Str} (ha : Ev ta σ H (.ref a)) (ho : H a = some (.ins C dx fs)) (c : Cls K C) (n : NoAttr K C f) (l : fs.lookup f = some v) : Ev (tFld K ta f) σ H v := fun H1 e Q q =>
  ha H1 e _ fun H2 e2 => ⟨a, C, dx, fs, v, rfl, (e.trans e2) a _ ho, c, n, l, q H2 e2⟩
theorem ev_chain {r r' : R2} {b c : Bool} (ha : Ev ta σ H x) (hb : Ev tb σ H y) (hr : RV r x y H (.bl b)) (hc : b = true → Ev tc σ H z) (hr' : b = true → RV r' y z H (.bl c)) : Ev (tChain r r' ta tb tc) σ H (.bl (b && c)) := fun H1 e Q q =>
  ha H1 e _ fun H2 e2 => hb H2 (e.trans e2) _ fun H3 e3 => hr H3 ((e.trans e2).trans e3) _ fun H4 e4 => ⟨b, rfl, by
    cases b with
    | true =>
      show tc σ H4 _
      exact hc rfl H4 (((e.trans e2).trans e3).trans e4) _ fun H5 e5 => hr' rfl H5 ((((e.trans e2).trans e3).trans e4).trans e5) Q fun H6 e6 => q H6 ((((e2.trans e3).trans e4).trans e5).trans e6)
    | false =>
      show Q (.bl false) H4
      exact q H4 ((e2.trans e3).trans e4)⟩
/-! ### an operation one of whose sides is told by a property -/
theorem ep_op {r : R2} (ha : EvP ta σ H Pa) (hb : ∀ x H1, Ex H H1 → Pa x H1 → EvP tb σ H1 (fun y H2 => ∀ Q : VK, (∀ v H3, Ex H2 H3 → P v H3 → Q v H3) → r x y H2 Q)) : EvP (tOp r ta tb) σ H P := fun H1 e Q q =>
  ha H1 e _ fun x H2 e2 px => hb x H2 (e.trans e2) px H2 (Ex.refl H2) _ fun y H3 e3 py => py Q fun v H4 e4 pv => q v H4 ((e2.trans e3).trans e4) pv
theorem ep_cb {r : List V → Hp → VK → Prop} {tl : TA} {A : List V → Hp → Prop} (h : EvAP tl σ H A) (hr : ∀ vs H1, Ex H H1 → A vs H1 → ∀ Q : VK, (∀ v H2, Ex H1 H2 → P v H2 → Q v H2) → r vs H1 Q) : EvP (tCB r tl) σ H P := fun H1 e Q q =>
  h H1 e _ fun vs H2 e2 a => hr vs H2 (e.trans e2) a Q fun v H3 e3 p => q v H3 (e2.trans e3) p
theorem ep_if {b : Bool} (h : EvT t σ H b) (h1 : b = true → EvP ta σ H P) (h2 : b = false → EvP tb σ H P) : EvP (tIf t ta tb) σ H P := fun H1 e Q q => h H1 e _ fun H2 e2 => by
  cases b with
  | true =>
    show ta σ H2 Q
    exact h1 rfl H2 (e.trans e2) Q fun v H3 e3 => q v H3 (e2.trans e3)
  | false =>
    show tb σ H2 Q
    exact h2 rfl H2 (e.trans e2) Q fun v H3 e3 => q v H3 (e2.trans e3)
theorem et_ep {b : Bool} (h : EvP te σ H (fun w _ => w = .bl b)) : EvT (tTest te) σ H b := et_test (ev_ep h)
theorem et_epB {b : Bool} (h : EvP te σ H (fun w _ => w = .bl b)) : EvT (tB te) σ H b := et_B (ev_ep h)

/-! ### statements -/
variable {D : Ends} {tu tw tz : TS} {g : TG}
theorem s_asgP {i : Nat} (h : EvP te σ H P) (k : ∀ v H1, Ex H H1 → P v H1 → D.nx (σ.set i (some v)) H1) : tAsg te (gName i) D σ H := h H (Ex.refl H) _ fun v H1 e p => k v H1 e p
theorem q_asgP {i : Nat} (h : EvP te σ H P) (k : ∀ v H1, Ex H H1 → P v H1 → tz D (σ.set i (some v)) H1) : tSeq (tAsg te (gName i)) tz D σ H := s_asgP (D := { D with nx := tz D }) h k
theorem s_asgG (h : EvP te σ H P) (k : ∀ v H1, Ex H H1 → P v H1 → g v σ H1 D.nx) : tAsg te g D σ H := h H (Ex.refl H) _ fun v H1 e p => k v H1 e p
theorem q_asgG (h : EvP te σ H P) (k : ∀ v H1, Ex H H1 → P v H1 → g v σ H1 (tz D)) : tSeq (tAsg te g) tz D σ H := s_asgG (D := { D with nx := tz D }) h k
theorem s_retP (h : EvP te σ H P) (k : ∀ v H1, Ex H H1 → P v H1 → D.rt v H1) : tRet te D σ H := h H (Ex.refl H) _ k
theorem s_dropP (h : EvP te σ H P) (k : ∀ v H1, Ex H H1 → P v H1 → D.nx σ H1) : tDrop te D σ H := h H (Ex.refl H) _ k
theorem q_dropP (h : EvP te σ H P) (k : ∀ v H1, Ex H H1 → P v H1 → tz D σ H1) : tSeq (tDrop te) tz D σ H := h H (Ex.refl H) _ k
theorem s_appP {l : Addr} {xs : List V} (hl : H l = some (.lst xs)) (ha : Ev ta σ H (.ref l)) (h : EvP te σ H P) (hz : xs.length < 100000) (k : ∀ v H1, Ex H H1 → P v H1 → D.nx σ (upd H1 l (.lst (xs ++ [v])))) :
    tDrop (tBM K "list" rAppend ta (tCons te tNil)) D σ H := ha H (Ex.refl H) _ fun H1 e1 =>
  ⟨Or.inl ⟨rfl, xs, sq_of (e1 l _ hl)⟩, h H1 e1 _ fun v H2 e2 p => ⟨l, xs, v, rfl, rfl, e2 l _ (e1 l _ hl), sz_lt hz, k v H2 (e1.trans e2) p⟩⟩
theorem q_appP {l : Addr} {xs : List V} (hl : H l = some (.lst xs)) (ha : Ev ta σ H (.ref l)) (h : EvP te σ H P) (hz : xs.length < 100000) (k : ∀ v H1, Ex H H1 → P v H1 → tz D σ (upd H1 l (.lst (xs ++ [v])))) :
    tSeq (tDrop (tBM K "list" rAppend ta (tCons te tNil))) tz D σ H := s_appP (D := { D with nx := tz D }) hl ha h hz k
/-- xs[i], t[i] as a value by a property -/
theorem ep_ixL {p : Addr} {xs : List V} {i : Int} (ha : Ev ta σ H (.ref p)) (hb : Ev tb σ H (.int i)) (h : SqL K H p xs) (hv : atI xs i = some v) : Ev (tOp (rIxL K) ta tb) σ H v := ev_op ha hb (rv_ixL h hv)
theorem ep_ixT {p : Addr} {xs : List V} {i : Int} (ha : Ev ta σ H (.ref p)) (hb : Ev tb σ H (.int i)) (h : SqT K H p xs) (hv : atI xs i = some v) : Ev (tOp (rIxT K) ta tb) σ H v := ev_op ha hb (rv_ixT h hv)
/-- a, b = a tuple of two; a, b, c = a tuple of three, to names -/
theorem g_two {a : Addr} {x y : V} {i j : Nat} {Q : L2.St → Hp → Prop} (h : SqT K H a [x, y]) (k : Q ((σ.set i (some x)).set j (some y)) H) : gTup K 2 (gCons (gName i) (gCons (gName j) gNil)) (.ref a) σ H Q :=
  ⟨a, [x, y], rfl, h, rfl, x, [y], rfl, y, [], rfl, rfl, k⟩
theorem g_three {a : Addr} {x y z : V} {i j l : Nat} {Q : L2.St → Hp → Prop} (h : SqT K H a [x, y, z]) (k : Q (((σ.set i (some x)).set j (some y)).set l (some z)) H) : gTup K 3 (gCons (gName i) (gCons (gName j) (gCons (gName l) gNil))) (.ref a) σ H Q :=
  ⟨a, [x, y, z], rfl, h, rfl, x, [y, z], rfl, y, [z], rfl, z, [], rfl, rfl, k⟩
end

/-! ### more -/
section
variable {K : PySem.W.Frag} {σ : L2.St} {H H' : Hp} {ta tb tc te td ty tx : TE} {t u : TT} {x y z v : V} {P P' Pa Pb : V → Hp → Prop} {D : Ends} {tu tw tz : TS} {g : TG}
/-- a tuple of these items stands at v -/
def TupAt (xs : List V) (v : V) (H : Hp) : Prop := ∃ a, v = .ref a ∧ H a = some (.tup xs)
theorem TupAt.mono {xs : List V} (e : Ex H H') (h : TupAt xs v H) : TupAt xs v H' :=
  let ⟨a, h1, h2⟩ := h
  ⟨a, h1, e _ _ h2⟩
theorem ep_tup {tl : TA} {vs : List V} (h : EvA tl σ H vs) (hl : vs.length ≤ 100000 := by first | decide | simp) : EvP (tTup tl) σ H (TupAt vs) := (ep_U (eu_tup h hl)).imp fun _ _ _ ⟨p, h1, _, h2⟩ => ⟨p, h1, h2⟩
theorem eap_consM {tr : TA} {R : List V → Hp → Prop} (h : EvP te σ H P) (hm : ∀ v H1 H2, Ex H1 H2 → P v H1 → P v H2) (hr : EvAP tr σ H R) : EvAP (tCons te tr) σ H (fun vs H2 => ∃ v r, vs = v :: r ∧ P v H2 ∧ R r H2) :=
  fun H1 e Q q => h H1 e _ fun v H2 e2 p => hr H2 (e.trans e2) _ fun r H3 e3 pr => q (v :: r) H3 (e2.trans e3) ⟨v, r, rfl, hm v H2 H3 e3 p, pr⟩
/-- a new list of items told by a property -/
theorem ep_lstP {tl : TA} {R : List V → Hp → Prop} (h : EvAP tl σ H R) (hl : ∀ vs H1, R vs H1 → vs.length ≤ 100000) (hm : ∀ vs H1 H2, Ex H1 H2 → R vs H1 → R vs H2) :
    EvP (tLst tl) σ H (fun v H2 => ∃ p vs, v = .ref p ∧ H p = none ∧ H2 p = some (.lst vs) ∧ R vs H2) := fun H1 e Q q =>
  h H1 e _ fun vs H2 e2 r => ⟨sz_of (hl vs H2 r), fun p hp => q _ _ (e2.trans (Ex.new hp)) ⟨p, vs, rfl, fresh_back (e.trans e2) hp, upd_same, hm vs _ _ (Ex.new hp) r⟩⟩
theorem eap_U {tr : TA} {xs : List V} {R : List V → Hp → Prop} (h : EvA tr σ H xs) (hl : xs.length ≤ 100000) {tq : TA} (hq : EvAP tq σ H R) : EvAP (tCons (tTup tr) tq) σ H (fun vs H2 => ∃ v r, vs = v :: r ∧ TupAt xs v H2 ∧ R r H2) :=
  eap_consM (ep_tup h hl) (fun _ _ _ e p => p.mono e) hq
/-- over a new tuple -/
theorem s_forNT {xs : List V} {tl : TE} (h : EvU tl σ H xs) (Pv : Addr → Nat → L2.St → Hp → Prop) (h0 : ∀ p H1, H p = none → Ex H H1 → H1 p = some (.tup xs) → Pv p 0 σ H1) (hl : ∀ p i σ' H', i ≤ xs.length → Pv p i σ' H' → SqT K H' p xs)
    (hs : ∀ p i x σ' H', xs[i]? = some x → Pv p i σ' H' → g x σ' H' fun σ2 H2 => tu { D with nx := Pv p (i + 1), ct := Pv p (i + 1), bk := D.nx } σ2 H2) (hd : ∀ p σ' H', Pv p xs.length σ' H' → D.nx σ' H') : tFor (iTup K tl) g tu D σ H :=
  h H (Ex.refl H) _ fun p H1 hp e h1 => ⟨p, rfl, ⟨xs, st_of h1⟩, for_tup (Pv p) (h0 p H1 hp e h1) (hl p) (hs p) (hd p)⟩
theorem ev_dget2 {a b : Addr} {kvs : List (List Key × V)} {k : List Key} (hd : Ev td σ H (.ref a)) (hH : H a = some (.dT kvs)) (hy : Ev ty σ H (.ref b)) (hb : H b = some (.tup (k.map kV))) (hx : Ev tx σ H z) : Ev (tDGet2 td ty tx) σ H ((valV kvs k).getD z) := fun H1 e Q q =>
  hd H1 e _ fun H2 e2 => ⟨a, rfl, .inr ⟨kvs, .inl ((e.trans e2) _ _ hH)⟩, hy H2 (e.trans e2) _ fun H3 e3 => hx H3 ((e.trans e2).trans e3) _ fun H4 e4 =>
    ⟨valV kvs k, DGet.t ((((e.trans e2).trans e3).trans e4) _ _ hH) ((((e.trans e2).trans e3).trans e4) _ _ hb), q H4 ((e2.trans e3).trans e4)⟩⟩
/-- len, of what is told by a property -/
theorem ev_lenL {p : Addr} {xs : List V} (ha : Ev ta σ H (.ref p)) (h : SqL K H p xs) : Ev (tCB (rLenS K) (tCons ta tNil)) σ H (.int (xs.length : Int)) := ev_len ha h
theorem ev_lenT {p : Addr} {xs : List V} (ha : Ev ta σ H (.ref p)) (h : SqT K H p xs) : Ev (tCB (rLenS K) (tCons ta tNil)) σ H (.int (xs.length : Int)) := fun H1 e Q q =>
  ha H1 e _ fun H2 e2 => ⟨p, xs, rfl, Or.inr (ex_t (e.trans e2) h), q H2 e2⟩
/-- isinstance(x, a built-in class) -/
theorem ev_isi {n : String} {tv : Value} {b : Bool} (ha : Ev ta σ H x) (hx : ∀ H1, Ex H H1 → TyX K H1 x tv) (hk : PySem.W.kitOne K tv (.type n) = some b) : Ev (tCB (rIsi K) (tCons ta (tCons (tC (.ty n)) tNil))) σ H (.bl b) := fun H1 e Q q =>
  ha H1 e _ fun H2 e2 => ⟨x, .ty n, tv, .type n, b, rfl, .ty n, hx H2 (e.trans e2), hk, q H2 e2⟩
/-- what keeps the tuples -/
def ExT (H H' : Hp) : Prop := ∀ a xs, H a = some (.tup xs) → H' a = some (.tup xs)
theorem ExT.of (e : Ex H H') : ExT H H' := fun a xs h => e a _ h
theorem ExT.trans {H1 : Hp} (a : ExT H H1) (b : ExT H1 H') : ExT H H' := fun c xs h => b c xs (a c xs h)
theorem ExT.upd {p : Addr} {xs : List V} {o : HO} (hp : H p = some (.lst xs)) : ExT H (upd H p o) := fun a ys h => by
  rw [upd_ne (ne_of h hp (by intro z; cases z))]
  exact h
end

/-! ### C(e, ..) where what is raised is wished for at the caller's slots -/
section
variable {X : Cx} {CX : CXT} {k : Nat} {f C : Addr} {fd : FuncData} {ps : List Str} {sp : Sp} {E : L2.St → XK} {x : Str} {p pos : Pos} {e : Expr} {es : List Expr} {t : TA}
def tMakeS (C : Addr) (sp : Sp) (E : L2.St → XK) (t : TA) : TE := fun σ H Q => t σ H fun vs H1 => ∀ x dx, H1 x = none → H1 dx = none → dx ≠ x →
  sp (.ref x :: vs) (upd (upd H1 dx (.own x)) x (.ins C dx [])) (fun v H2 => v = .non ∧ Q (.ref x) H2) (E σ)
theorem run_makeS {pins : List (Addr × Obj)} {σ : L2.St} {H : Hp} {s : Shared} {Q : VK} {us : List Value} {vs : List V} (M : Mk X.K C f) (F : FnOk X.prog X.w X.K X.mg X.base CX k f fd ps sp) (hr : Room (k + 1) X.A) (hb : Binds X.K fd ps [])
    (hx : PassesAt CX X σ (E σ)) (I : Inv X pins σ H s) (r : Vals vs us)
    (h : ∀ x dx, H x = none → H dx = none → dx ≠ x → sp (.ref x :: vs) (upd (upd H dx (.own x)) x (.ins C dx [])) (fun v H2 => v = .non ∧ Q (.ref x) H2) (E σ)) :
    wpAny (model X.prog X.w) X.A (call (.ref C) us) (EP X pins σ Q) X.xe s := by
  have hq := h (s.heap.objs.size + 1) s.heap.objs.size (I.hok.fresh (Nat.le_succ _)) (I.hok.fresh (Nat.le_refl _)) (Nat.ne_of_lt (Nat.lt_succ_self _))
  have I2 := Inv.made (C := C) I
  have r2 : Vals (V.ref (s.heap.objs.size + 1) :: vs) (Value.ref (s.heap.objs.size + 1) :: us) := .cons rfl r
  have hl : (Value.ref (s.heap.objs.size + 1) :: us).length = ps.length := by
    have e := r2.length
    rw [F.len _ _ _ _ hq] at e
    exact e.symm
  have b := hb { s with heap := (s.heap.push PySem.W.emptyDict).push (PySem.W.instObj C s.heap.objs.size) } (Value.ref (s.heap.objs.size + 1) :: us) I2.kIn (by rw [List.append_nil]; exact hl)
  rw [List.append_nil] at b
  refine wpAny_call (make_map (f := f) I.kIn M.makes M.init (beq_iff_eq.mp M.fn) (codeAny_mono (F.run _ X.stack _ _ ⟨Value.ref (s.heap.objs.size + 1) :: us, []⟩ (Value.ref (s.heap.objs.size + 1) :: us) _ _ (E σ) (hr.make C us [])
    (I2.env0.make C us []) b r2 hq) fun r s' hq' => ?_))
  cases r with
  | error e => exact hx pins _ _ e s' I2 hq'
  | ok fl =>
    cases fl with
    | ret u =>
      obtain ⟨v, H', I3, rv, ev, q3⟩ := I2.after hq'
      subst ev
      exact ⟨rv, ⟨V.ref (s.heap.objs.size + 1), H', I3, rfl, q3⟩⟩
    | next => exact False.elim hq'
    | brk => exact False.elim hq'
    | cont => exact False.elim hq'
theorem pe_makeS (M : Mk X.K C f) (F : FnOk X.prog X.w X.K X.mg X.base CX k f fd ps sp) (hr : Room (k + 1) X.A) (hg : Gl X x) (hm : X.mg x = some (.ref C)) (hb : Binds X.K fd ps []) (hx : ∀ σ, PassesAt CX X σ (E σ))
    (ha : PA X (e :: es) t) (hdb : (x == ("__debug__" : Str)) = false := by decide) (he : starEach (e :: es) X.env = (false, eval e X.env) :: starEach es X.env := by rfl) (hpl : (backTo pos (starEach es X.env)).any (·.1) = false := by rfl) :
    PE X (.Call (.Name x p) (e :: es) [] pos) (tMakeS C sp E t) := by
  refine ⟨fun pins s σ H Q I h => ?_⟩
  refine wpAny_Call_Name_kw (ld_glob I hg hm ?_ hdb)
  refine PySem.W.callWith_K (h₀ := X.base) I.ok.mod.kin M.kp (thn (ha.run pos pins s σ H _ I h) fun us s1 ⟨vs, H1, I1, r, q⟩ => ⟨I1.kIn, ?_⟩) he hpl
  exact run_makeS M F hr hb (hx σ) I1 r q
end
end SD

namespace SD
open PySem PySem.Spec PyProof.Rows L2 Evl
/-! ### the text by places -/
def topS (i : Nat) : Stmt := PySem.Challenge.pw_sandline_k01_new_board.main.body.getD i (.Pass ⟨0, 0, 0, 0⟩)
abbrev s_init : Stmt := inClass (topS 10) 0
abbrev s_has : Stmt := inClass (topS 10) 1
abbrev s_doors : Stmt := inClass (topS 10) 2
abbrev s_sign : Stmt := inClass (topS 10) 3
abbrev s_cell : Stmt := topS 12
abbrev s_size : Stmt := topS 13
abbrev s_ldoors : Stmt := topS 14
abbrev s_number : Stmt := topS 15
abbrev s_refused : Stmt := topS 16
abbrev s_dright : Stmt := topS 17
abbrev s_law : Stmt := topS 18
/-! ### a board without mirrors -/
def bf (w h : Int) (d : Addr) : List (Str × V) := putF "mirrors" (.ref d) (putF "high" (.int h) (putF "wide" (.int w) []))
theorem bf_wide (w h : Int) (d : Addr) : (bf w h d).lookup ("wide" : Str) = some (.int w) := by
  unfold bf
  rw [lookup_putF, if_neg (by decide +kernel), lookup_putF, if_neg (by decide +kernel), lookup_putF, if_pos rfl]
theorem bf_high (w h : Int) (d : Addr) : (bf w h d).lookup ("high" : Str) = some (.int h) := by
  unfold bf
  rw [lookup_putF, if_neg (by decide +kernel), lookup_putF, if_pos rfl]
theorem bf_mirrors (w h : Int) (d : Addr) : (bf w h d).lookup ("mirrors" : Str) = some (.ref d) := by
  unfold bf
  rw [lookup_putF, if_pos rfl]
theorem bf_no (w h : Int) (d : Addr) {m : Str} (h1 : ¬ m = "mirrors") (h2 : ¬ m = "high") (h3 : ¬ m = "wide") : (bf w h d).lookup m = none := by
  unfold bf
  rw [lookup_putF, if_neg h1, lookup_putF, if_neg h2, lookup_putF, if_neg h3]
  rfl
/-- a board of these sizes at v, no mirrors -/
def Bd (C : Addr) (H : Hp) (v : V) (w h : Int) : Prop := ∃ a dx d, v = .ref a ∧ H a = some (.ins C dx (bf w h d)) ∧ H d = some (.dT [])
theorem Bd.mono {C : Addr} {H H' : Hp} {v : V} {w h : Int} (e : Ex H H') (b : Bd C H v w h) : Bd C H' v w h :=
  let ⟨a, dx, d, h1, h2, h3⟩ := b
  ⟨a, dx, d, h1, e _ _ h2, e _ _ h3⟩
abbrev Door := Str × Int × Int
def IsDr (H : Hp) (v : V) (d : Door) : Prop := ∃ a, v = .ref a ∧ H a = some (.tup [.str d.1, .int d.2.1, .int d.2.2])
theorem IsDr.mono {H H' : Hp} {v : V} {d : Door} (e : Ex H H') (b : IsDr H v d) : IsDr H' v d :=
  let ⟨a, h1, h2⟩ := b
  ⟨a, h1, e _ _ h2⟩
def hasF (w h : Int) (d : Door) : Bool :=
  if d.1 = ("row" : Str) then (decide (0 ≤ d.2.1) && decide (d.2.1 < w - 1)) && (decide (0 ≤ d.2.2) && decide (d.2.2 < h))
  else if d.1 = ("column" : Str) then (decide (0 ≤ d.2.1) && decide (d.2.1 < w)) && (decide (0 ≤ d.2.2) && decide (d.2.2 < h - 1)) else false
/-! ### mathematics: the doors -/
def doorD (d : Door) : PyData := .tuple [.str d.1, .int d.2.1, .int d.2.2]
def doorsAt (w h : Int) (r c : Nat) : List Door := (if (c : Int) + 1 < w then [(("row" : Str), (c : Int), (r : Int))] else []) ++ (if (r : Int) + 1 < h then [(("column" : Str), (c : Int), (r : Int))] else [])
def doorsRow (w h : Int) (r : Nat) : Nat → List Door
  | 0 => []
  | c + 1 => doorsRow w h r c ++ doorsAt w h r c
def doorsTo (w h : Int) : Nat → List Door
  | 0 => []
  | r + 1 => doorsTo w h r ++ doorsRow w h r w.toNat
def doorsL (w h : Int) : List Door := doorsTo w h h.toNat
theorem doorsAt_len (w h : Int) (r c : Nat) : (doorsAt w h r c).length ≤ 2 := by
  unfold doorsAt
  split <;> split <;> simp
theorem doorsRow_len (w h : Int) (r : Nat) : ∀ n, (doorsRow w h r n).length ≤ 2 * n
  | 0 => by simp [doorsRow]
  | n + 1 => by
    have h1 := doorsRow_len w h r n
    have h2 := doorsAt_len w h r n
    simp only [doorsRow, List.length_append]
    omega
theorem doorsTo_len (w h : Int) (hw : w ≤ 12) : ∀ n, (doorsTo w h n).length ≤ 24 * n
  | 0 => by simp [doorsTo]
  | n + 1 => by
    have h1 := doorsTo_len w h hw n
    have h2 := doorsRow_len w h n w.toNat
    simp only [doorsTo, List.length_append]
    omega
theorem hasF_row {w h : Int} {c r : Nat} (hc : (c : Int) < w) (hr : (r : Int) < h) : hasF w h (("row" : Str), (c : Int), (r : Int)) = decide ((c : Int) + 1 < w) := by
  have e1 : decide (0 ≤ (c : Int)) = true := decide_eq_true (by omega)
  have e2 : decide (0 ≤ (r : Int)) = true := decide_eq_true (by omega)
  have e3 : decide ((r : Int) < h) = true := decide_eq_true hr
  have e4 : decide ((c : Int) < w - 1) = decide ((c : Int) + 1 < w) := decide_eq_decide.mpr (by omega)
  simp only [hasF, if_true, e1, e2, e3, e4, Bool.true_and, Bool.and_true]
theorem hasF_col {w h : Int} {c r : Nat} (hc : (c : Int) < w) (hr : (r : Int) < h) : hasF w h (("column" : Str), (c : Int), (r : Int)) = decide ((r : Int) + 1 < h) := by
  have e0 : ¬ (("column" : Str) = "row") := by decide +kernel
  have e1 : decide (0 ≤ (c : Int)) = true := decide_eq_true (by omega)
  have e2 : decide (0 ≤ (r : Int)) = true := decide_eq_true (by omega)
  have e3 : decide ((c : Int) < w) = true := decide_eq_true hc
  have e4 : decide ((r : Int) < h - 1) = decide ((r : Int) + 1 < h) := decide_eq_decide.mpr (by omega)
  simp only [hasF, if_neg e0, if_true, e1, e2, e3, e4, Bool.true_and, Bool.and_true]
theorem doorsAt_has {w h : Int} {r c : Nat} (hc : (c : Int) < w) (hr : (r : Int) < h) : ∀ d ∈ doorsAt w h r c, hasF w h d = true ∧ PyData.strOk d.1 = true := by
  intro d hd
  unfold doorsAt at hd
  rcases List.mem_append.mp hd with hd | hd
  · split at hd
    · rename_i hw
      obtain rfl := List.mem_singleton.mp hd
      exact ⟨by rw [hasF_row hc hr, decide_eq_true hw], (by decide +kernel : PyData.strOk ("row" : Str) = true)⟩
    · cases hd
  · split at hd
    · rename_i hw
      obtain rfl := List.mem_singleton.mp hd
      exact ⟨by rw [hasF_col hc hr, decide_eq_true hw], (by decide +kernel : PyData.strOk ("column" : Str) = true)⟩
    · cases hd
theorem doorsRow_has {w h : Int} {r : Nat} (hr : (r : Int) < h) : ∀ n : Nat, (n : Int) ≤ w → ∀ d ∈ doorsRow w h r n, hasF w h d = true ∧ PyData.strOk d.1 = true
  | 0, _, d, hd => by simp [doorsRow] at hd
  | n + 1, hn, d, hd => by
    rcases List.mem_append.mp hd with hd | hd
    · exact doorsRow_has hr n (by omega) d hd
    · exact doorsAt_has (by omega) hr d hd
theorem doorsTo_has {w h : Int} (hw : 0 ≤ w) : ∀ n : Nat, (n : Int) ≤ h → ∀ d ∈ doorsTo w h n, hasF w h d = true ∧ PyData.strOk d.1 = true
  | 0, _, d, hd => by simp [doorsTo] at hd
  | n + 1, hn, d, hd => by
    rcases List.mem_append.mp hd with hd | hd
    · exact doorsTo_has hw n (by omega) d hd
    · exact doorsRow_has (by omega) _ (by omega) d hd
theorem doorsL_has {w h : Int} (hw : 0 ≤ w) (hh : 0 ≤ h) : ∀ d ∈ doorsL w h, hasF w h d = true ∧ PyData.strOk d.1 = true := doorsTo_has hw _ (by omega)
/-- a list of doors at xs -/
abbrev Drs (H : Hp) (xs : List V) (ds : List Door) : Prop := Paired (fun x d => IsDr H x d) xs ds
theorem Drs.mono {H H' : Hp} (e : ExT H H') {xs : List V} {ds : List Door} (h : Drs H xs ds) : Drs H' xs ds := Paired.mapP h fun _ _ ⟨a, h1, h2⟩ => ⟨a, h1, e _ _ h2⟩
theorem Drs.snoc {H : Hp} : ∀ {xs : List V} {ds : List Door} {x : V} {d : Door}, Drs H xs ds → IsDr H x d → Drs H (xs ++ [x]) (ds ++ [d])
  | _, _, _, _, .nil, h => .cons h .nil
  | _, _, _, _, .cons a r, h => .cons a (Drs.snoc r h)
theorem Drs.get {H : Hp} : ∀ {xs : List V} {ds : List Door} {i : Nat} {x : V}, Drs H xs ds → xs[i]? = some x → ∃ d, ds[i]? = some d ∧ IsDr H x d
  | _, _, _, _, .nil, e => by simp at e
  | _, _, 0, _, .cons r _, e => by simp at e; subst e; exact ⟨_, rfl, r⟩
  | _, _, i + 1, x, .cons _ t, e => by
    obtain ⟨u, h1, h2⟩ := Drs.get (i := i) (x := x) t (by simpa using e)
    exact ⟨u, by simpa using h1, h2⟩
theorem dpa_doors {K : PySem.W.Frag} {H : Hp} : ∀ {xs : List V} {ds : List Door}, Drs H xs ds → DpAll K H xs (ds.map doorD)
  | _, _, .nil => .nil
  | _, _, .cons ⟨a, h1, h2⟩ r => by
    subst h1
    exact .cons (.tup (st_of h2) (.cons (.str _) (.cons (.int _) (.cons (.int _) .nil)))) (dpa_doors r)
theorem canLay_doors : ∀ {ds : List Door}, (∀ d ∈ ds, PyData.strOk d.1 = true) → PyData.canLayAll0 (ds.map doorD) = true
  | [], _ => rfl
  | d :: r, h => by
    have h1 := h d List.mem_cons_self
    have h2 := canLay_doors (ds := r) fun x hx => h x (List.mem_cons_of_mem _ hx)
    simp only [List.map_cons, PyData.canLayAll0, doorD, PyData.canLay0, h1, h2, Bool.and_self]
theorem depth_doors : ∀ {ds : List Door}, PyData.depthAll (ds.map doorD) ≤ 1
  | [] => by simp [PyData.depthAll]
  | d :: r => by
    have h2 := depth_doors (ds := r)
    simp only [List.map_cons, PyData.depthAll, doorD, PyData.depth]
    omega
theorem shaped_doors {ds : List Door} (h : ∀ d ∈ ds, PyData.strOk d.1 = true) : SeqAt.shaped (.list (ds.map doorD)) = true := by
  have h1 := canLay_doors h
  have h2 := depth_doors (ds := ds)
  unfold SeqAt.shaped
  rw [Bool.and_eq_true]
  refine ⟨by simpa only [PyData.canLay0] using h1, decide_eq_true ?_⟩
  simp only [PyData.depth]
  omega
/-! ### mathematics: sizes, cells -/
def cel (ns : List Int) (k : Nat) : Int := ns.getD k 0
def pairs (m : Int) : Int × Int := if m = 0 then (7, 4) else if m = 1 then (8, 4) else if m = 2 then (9, 4) else (7, 5)
def sizeOf (cell : Int) : Int × Int :=
  if cell % 8 = 5 then (if cell / 8 / 4 % 2 = 0 then pairs (cell / 8 % 4) else ((pairs (cell / 8 % 4)).2, (pairs (cell / 8 % 4)).1))
  else if cell % 8 = 6 then (1 + cell / 8 % 12, 1 + cell / 8 / 12 % 3)
  else if cell % 8 = 7 then (1 + cell / 8 % 3, 1 + cell / 8 / 3 % 12)
  else (1 + cell / 8 % 6, 1 + cell / 8 / 6 % 6)
def numOf (cell : Int) : Int := if cell % 9 = 8 then (if cell / 9 % 2 = 0 then -1 else 1) * (cell / 18 % 10 ^ 20) else cell / 9 % 20 - 3
def okSize (w h : Int) : Bool := (decide (1 ≤ w) && decide (w ≤ 12)) && ((decide (1 ≤ h) && decide (h ≤ 12)) && decide (w * h ≤ 36))
/-! ### what the top has written -/
structure Ad where
  C : Addr
  NB : Addr
  SE : Addr
  ND : Addr
  NS : Addr
  NDr : Addr
  init : Addr
  d_init : FuncData
  has : Addr
  d_has : FuncData
  doors : Addr
  d_doors : FuncData
  sign : Addr
  d_sign : FuncData
  cell : Addr
  d_cell : FuncData
  size : Addr
  d_size : FuncData
  ldoors : Addr
  d_ldoors : FuncData
  number : Addr
  d_number : FuncData
  refused : Addr
  d_refused : FuncData
  dright : Addr
  d_dright : FuncData
structure Txt (K : PySem.W.Frag) (mg : Str → Option Value) (A : Ad) : Prop where
  cl : Cls K A.C
  n_wide : NoAttr K A.C "wide"
  n_high : NoAttr K A.C "high"
  n_mirrors : NoAttr K A.C "mirrors"
  z_range : mg "range" = none
  z_len : mg "len" = none
  z_isinstance : mg "isinstance" = none
  z_int : mg "int" = none
  z_bool : mg "bool" = none
  z_list : mg "list" = none
  z_tuple : mg "tuple" = none
  z_str : mg "str" = none
  z_ValueError : mg "ValueError" = none
  g_WIDEST : ∃ t, mg "WIDEST" = some (.int 12 t)
  g_MOST : ∃ t, mg "MOST" = some (.int 36 t)
  g_Board : mg "Board" = some (.ref A.C)
  g_NoBoard : mg "NoBoard" = some (.ref A.NB)
  g_SandError : mg "SandError" = some (.ref A.SE)
  g_NoDoor : mg "NoDoor" = some (.ref A.ND)
  g_NoSign : mg "NoSign" = some (.ref A.NS)
  g_NoDrawing : mg "NoDrawing" = some (.ref A.NDr)
  x_NB : PySem.W.excIn K A.NB [.type "ValueError", .type "Exception", .type "BaseException", .type "object"] "ValueError.__new__" = true
  k_NB : PySem.W.keepIn K (.ref A.NB) = true
  r_NB : PySem.W.subIn K (.ref A.NB) (.type "BaseException") = some true
  t_NB : PySem.W.typeIn K (.ref A.NB) = some (.type "type")
  e_NB : PySem.W.exmOne K (.ref A.NB) (.ref A.NB) = some true
  c_NB : ExcC K A.NB
  i_SE : PySem.W.kitOne K (.ref A.NB) (.ref A.SE) = some true
  i_VE : PySem.W.kitOne K (.ref A.NB) (.type "ValueError") = some true
  i_ND : PySem.W.kitOne K (.ref A.NB) (.ref A.ND) = some false
  i_NS : PySem.W.kitOne K (.ref A.NB) (.ref A.NS) = some false
  i_NDr : PySem.W.kitOne K (.ref A.NB) (.ref A.NDr) = some false
  M_Board : Mk K A.C A.init
  F_init : Fun K "__init__" "Board.__init__" s_init A.init A.d_init
  b_Board_init : Binds K A.d_init ["self", "wide", "high"] []
  F_has : Fun K "has" "Board.has" s_has A.has A.d_has
  b_has : Binds K A.d_has ["self", "door"] []
  m_has : Meth K A.C "has" A.has
  F_doors : Fun K "doors" "Board.doors" s_doors A.doors A.d_doors
  b_doors : Binds K A.d_doors ["self"] []
  m_doors : Meth K A.C "doors" A.doors
  F_sign : Fun K "sign" "Board.sign" s_sign A.sign A.d_sign
  b_sign : Binds K A.d_sign ["self", "door"] []
  m_sign : Meth K A.C "sign" A.sign
  F_law_cell_at : Fun K "_law_cell_at" "_law_cell_at" s_cell A.cell A.d_cell
  b_law_cell_at : Binds K A.d_cell ["script", "k"] []
  g_law_cell_at : mg "_law_cell_at" = some (.ref A.cell)
  F_law_size : Fun K "_law_size" "_law_size" s_size A.size A.d_size
  b_law_size : Binds K A.d_size ["cell"] []
  g_law_size : mg "_law_size" = some (.ref A.size)
  F_law_doors : Fun K "_law_doors" "_law_doors" s_ldoors A.ldoors A.d_ldoors
  b_law_doors : Binds K A.d_ldoors ["wide", "high"] []
  g_law_doors : mg "_law_doors" = some (.ref A.ldoors)
  F_law_number : Fun K "_law_number" "_law_number" s_number A.number A.d_number
  b_law_number : Binds K A.d_number ["cell"] []
  g_law_number : mg "_law_number" = some (.ref A.number)
  F_law_refused : Fun K "_law_refused" "_law_refused" s_refused A.refused A.d_refused
  b_law_refused : Binds K A.d_refused ["wide", "high"] []
  g_law_refused : mg "_law_refused" = some (.ref A.refused)
  F_law_doors_right : Fun K "_law_doors_right" "_law_doors_right" s_dright A.dright A.d_dright
  b_law_doors_right : Binds K A.d_dright ["found", "due"] []
  g_law_doors_right : mg "_law_doors_right" = some (.ref A.dright)
section
variable {P : Program} {w : World} {K : PySem.W.Frag} {mg : Str → Option Value} {base : Heap} {A : Ad}
def spHas (C : Addr) : Sp := fun vs H Q _ => ∃ (b q : V) (w h : Int) (d : Door), vs = [b, q] ∧ Bd C H b w h ∧ IsDr H q d ∧ ∀ H2, Ex H H2 → Q (.bl (hasF w h d)) H2
theorem sc_has : FnScope ["self", "door", "kind", "column", "row"] ["self", "door"] (defScope s_has) := ⟨rfl, rfl, rfl, by decide +kernel, rfl, by decide +kernel, by decide +kernel⟩
theorem ok_has (T : Txt K mg A) : FnOk P w K mg base CX0 1 A.has A.d_has ["self", "door"] (spHas A.C) := by
  have SC := sc_has
  refine T.F_has.ok sc_has (fun vs H Q E h => ?_) (fun cdv A' outer s H vs Q E hr h => ?_)
  · obtain ⟨b, q, w, h, d, rfl, _⟩ := h
    rfl
  · obtain ⟨b, q, w, h, d, rfl, ⟨a, dx, dd, rfl, hb, hd⟩, ⟨t, rfl, ht⟩, k⟩ := h
    obtain ⟨kd, c, r⟩ := d
    refine ⟨_, (pss_cons (ps_asg (pv 1) (pg_tup (by rfl) (pgs_cons (pg_name (i := 2) SC.nd rfl (.inl rfl)) (pgs_cons (pg_name (i := 3) SC.nd rfl (.inl rfl)) (pgs_cons (pg_name (i := 4) SC.nd rfl (.inl rfl)) pgs_nil)))))
      (pss_cons (ps_if (pt_cmpR op_eq (pv 2) pe_str (nomark _)) (pss_one (ps_ret (pe_and (pe_chain op_le op_lt pe_int (pv 3) (pe_op op_sub (pe_fld (pv 0) rfl) pe_int)) (pe_one (pe_chain op_le op_lt pe_int (pv 4) (pe_fld (pv 0) rfl)))))) pss_nil)
      (pss_cons (ps_if (pt_cmpR op_eq (pv 2) pe_str (nomark _)) (pss_one (ps_ret (pe_and (pe_chain op_le op_lt pe_int (pv 3) (pe_fld (pv 0) rfl)) (pe_one (pe_chain op_le op_lt pe_int (pv 4) (pe_op op_sub (pe_fld (pv 0) rfl) pe_int)))))) pss_nil)
      (pss_one (ps_ret pe_bl))))), ?_⟩
    refine q_asgG (ep_ev (ev_var rfl)) ?_
    rintro v H1 e1 rfl
    refine g_three (st_of (e1 _ _ ht)) ?_
    have hb1 := e1 _ _ hb
    refine q_when (b := decide (kd = "row")) (et_is (et_test (ev_op (ev_var rfl) ev_c (rv_eq (by rfl)))) (by simp)) (fun hk H2 e2 => ?_) (fun hk H2 e2 => ?_)
    · have hb2 := e2 _ _ hb1
      refine s_ret (v := .bl (hasF w h (kd, c, r))) (ev_is (ev_andV (ev_chain ev_c (ev_var rfl) rv_I0 (fun _ => (ev_op (ev_fld (ev_var rfl) (by assumption) T.cl T.n_wide (bf_wide _ _ _)) ev_c rv_I0)) (fun _ => rv_I0)) (fun _ => (ev_chain ev_c (ev_var rfl) rv_I0 (fun _ => (ev_fld (ev_var rfl) (by assumption) T.cl T.n_high (bf_high _ _ _))) (fun _ => rv_I0)))) ?_) fun H3 e3 => k H3 ((e1.trans e2).trans e3)
      have hk' : kd = "row" := of_decide_eq_true hk
      simp only [hasF, hk', if_true]
    · have hb2 := e2 _ _ hb1
      have hk' : ¬ kd = "row" := of_decide_eq_false hk
      refine q_when (b := decide (kd = "column")) (et_is (et_test (ev_op (ev_var rfl) ev_c (rv_eq (by rfl)))) (by simp)) (fun hk2 H3 e3 => ?_) (fun hk2 H3 e3 => ?_)
      · have hb3 := e3 _ _ hb2
        refine s_ret (v := .bl (hasF w h (kd, c, r))) (ev_is (ev_andV (ev_chain ev_c (ev_var rfl) rv_I0 (fun _ => (ev_fld (ev_var rfl) (by assumption) T.cl T.n_wide (bf_wide _ _ _))) (fun _ => rv_I0)) (fun _ => (ev_chain ev_c (ev_var rfl) rv_I0 (fun _ => (ev_op (ev_fld (ev_var rfl) (by assumption) T.cl T.n_high (bf_high _ _ _)) ev_c rv_I0)) (fun _ => rv_I0)))) ?_) fun H4 e4 => k H4 (((e1.trans e2).trans e3).trans e4)
        have hk2' : kd = "column" := of_decide_eq_true hk2
        simp only [hasF, if_neg hk', if_pos hk2']
      · have hk2' : ¬ kd = "column" := of_decide_eq_false hk2
        refine s_ret (v := .bl (hasF w h (kd, c, r))) (ev_is ev_c ?_) fun H4 e4 => k H4 (((e1.trans e2).trans e3).trans e4)
        simp only [hasF, if_neg hk', if_neg hk2']
/-- self.has(a door) -/
theorem ev_has {σ : L2.St} {H : Hp} {ta : TE} {tl : TA} {b : V} {w h : Int} {d : Door} {E : XK} (hb : Bd A.C H b w h) (ho : Ev ta σ H b) (ha : EvAP tl σ H (fun vs H1 => ∃ q, vs = [q] ∧ IsDr H1 q d)) :
    Ev (tMeth A.C "has" (spHas A.C) [] E ta tl) σ H (.bl (hasF w h d)) := by
  obtain ⟨a, dx, dd, rfl, h1, h2⟩ := id hb
  exact ev_ep (ep_meth ho h1 (bf_no _ _ _ (by decide +kernel) (by decide +kernel) (by decide +kernel)) ha fun vs H1 e ⟨q, ev, hq⟩ Q E k => by
    subst ev
    exact ⟨_, q, w, h, d, rfl, hb.mono e, hq, fun H2 e2 => k _ H2 e2 rfl⟩)
def spSign (C : Addr) : Sp := fun vs H Q _ => ∃ (b q : V) (w h : Int) (d : Door), vs = [b, q] ∧ Bd C H b w h ∧ IsDr H q d ∧ hasF w h d = true ∧ ∀ H2, Ex H H2 → Q (.str ".") H2
theorem sc_sign : FnScope ["self", "door"] ["self", "door"] (defScope s_sign) := ⟨rfl, rfl, rfl, by decide +kernel, rfl, by decide +kernel, by decide +kernel⟩
theorem ok_sign (T : Txt K mg A) : FnOk P w K mg base CX0 2 A.sign A.d_sign ["self", "door"] (spSign A.C) := by
  have SC := sc_sign
  have G_has : FnOk P w K mg base CX0 1 A.has A.d_has ["self", "door"] (spHas A.C) := ok_has T
  refine T.F_sign.ok sc_sign (fun vs H Q E h => ?_) (fun cdv A' outer s H vs Q E hr h => ?_)
  · obtain ⟨b, q, w, h, d, rfl, _⟩ := h
    rfl
  · obtain ⟨b, q, w, h, d, rfl, hb, hq, hh, k⟩ := h
    have hu := hu_of hr
    refine ⟨_, (pss_cons (ps_if (pt_not (pt_val (pe_meth (pv 0) T.cl T.m_has G_has (hr.mono (by decide)) T.b_has .nil pass0 (pa_cons (pv 1) pa_nil)))) (pss_one ps_never) pss_nil)
      (pss_one (ps_ret (pe_dget2 hu (pe_fld (pv 0) rfl) (pv 1) pe_str ⟨by rfl, by rfl, by rfl, by rfl⟩)))), ?_⟩
    obtain ⟨a, dx, dd, rfl, h1, h2⟩ := id hb
    obtain ⟨t, rfl, ht⟩ := id hq
    refine q_when (b := false) (et_is (et_not (et_B (ev_has hb (ev_var rfl) ((eap_ea (ea_cons (ev_var rfl) ea_nil)).imp fun vs H1 e ev => ⟨_, ev, hq.mono e⟩)))) (by rw [hh]; rfl)) (fun z => nomatch z) (fun _ H2 e2 => ?_)
    have h1' := e2 _ _ h1
    refine s_ret (v := .str ".") (ev_is (ev_dget2 (ev_fld (ev_var rfl) h1' T.cl T.n_mirrors (bf_mirrors _ _ _)) (e2 _ _ h2) (ev_var rfl) (k := [.inr d.1, .inl d.2.1, .inl d.2.2]) (e2 _ _ ht) ev_c) ?_) fun H3 e3 => k H3 (e2.trans e3)
    rfl
/-- a new list of doors -/
def NewDrs (H : Hp) (ds : List Door) : V → Hp → Prop := fun v H2 => ∃ p xs, v = .ref p ∧ H p = none ∧ H2 p = some (.lst xs) ∧ Drs H2 xs ds
def spDoors (C : Addr) : Sp := fun vs H Q _ => ∃ (b : V) (w h : Int), vs = [b] ∧ Bd C H b w h ∧ 0 ≤ w ∧ w ≤ 12 ∧ 0 ≤ h ∧ h ≤ 12 ∧ ∀ v H2, Ex H H2 → NewDrs H (doorsL w h) v H2 → Q v H2
theorem sc_doors : FnScope ["self", "found", "row", "column", "kind"] ["self"] (defScope s_doors) := ⟨rfl, rfl, rfl, by decide +kernel, rfl, by decide +kernel, by decide +kernel⟩
theorem ok_doors (T : Txt K mg A) : FnOk P w K mg base CX0 2 A.doors A.d_doors ["self"] (spDoors A.C) := by
  have SC := sc_doors
  have G_has : FnOk P w K mg base CX0 1 A.has A.d_has ["self", "door"] (spHas A.C) := ok_has T
  refine T.F_doors.ok sc_doors (fun vs H Q E h => ?_) (fun cdv A' outer s H vs Q E hr h => ?_)
  · obtain ⟨b, w, h, rfl, _⟩ := h
    rfl
  · obtain ⟨b, w, h, rfl, hb, hw0, hw, hh0, hh, k⟩ := h
    refine ⟨_, (pss_cons (ps_set (i := 1) SC.nd rfl (.inl rfl) (pe_lst pa_nil))
      (pss_cons (ps_for PassesOwn.never rfl (pi_range1 (by rfl) T.z_range (pa_cons (pe_fld (pv 0) rfl) pa_nil)) (pg_name (i := 2) SC.nd rfl (.inl rfl))
      (pss_one (ps_for PassesOwn.never rfl (pi_range1 (by rfl) T.z_range (pa_cons (pe_fld (pv 0) rfl) pa_nil)) (pg_name (i := 3) SC.nd rfl (.inl rfl))
      (pss_one (ps_for PassesOwn.never rfl (pi_tup (pe_tup (pa_cons pe_str (pa_cons pe_str pa_nil)))) (pg_name (i := 4) SC.nd rfl (.inl rfl))
      (pss_one (ps_if (pt_val (pe_meth (pv 0) T.cl T.m_has G_has (hr.mono (by decide)) T.b_has .nil pass0 (pa_cons (pe_tup (pa_cons (pv 4) (pa_cons (pv 3) (pa_cons (pv 2) pa_nil)))) pa_nil))) (pss_one (ps_expr (pe_bm PySem.F.plainAttrs_list PySem.F.slot_list_append PySem.F.type_list_append mt_append (pv 1) (pa_cons (pe_tup (pa_cons (pv 4) (pa_cons (pv 3) (pa_cons (pv 2) pa_nil)))) pa_nil)))) pss_nil)))))))
      (pss_one (ps_ret (pv 1))))), ?_⟩
    obtain ⟨a, dx, dd, rfl, h1, h2⟩ := id hb
    refine q_asgL (el_lst ea_nil (by decide)) fun p H1 hp e1 hl => ?_
    have h1' := e1 _ _ h1
    refine q_forR1 (n := h) (ea_cons (ev_fld (ev_var rfl) (by assumption) T.cl T.n_high (bf_high _ _ _)) ea_nil) ⟨hh0, by omega⟩ (fun i σ' H' => ∃ x2 x3 x4 xs, σ' = [some (.ref a), some (.ref p), x2, x3, x4] ∧ Ex H H' ∧ H' p = some (.lst xs) ∧ Drs H' xs (doorsTo w h i)) (fun H2 e2 => ⟨none, none, none, [], rfl, e1.trans e2, e2 _ _ hl, .nil⟩) ?_ ?_
    · rintro r σ' H' hr' ⟨x2, x3, x4, xs, rfl, e2, hl2, D2⟩
      have h1'' := e2 _ _ h1
      refine s_forR1 (n := w) (ea_cons (ev_fld (ev_var rfl) h1'' T.cl T.n_wide (bf_wide _ _ _)) ea_nil) ⟨hw0, by omega⟩ (fun i σ' H' => ∃ x3 x4 xs, σ' = [some (.ref a), some (.ref p), some (.int (r : Int)), x3, x4] ∧ Ex H H' ∧ H' p = some (.lst xs) ∧ Drs H' xs (doorsTo w h r ++ doorsRow w h r i)) (fun H2 e3 => ⟨x3, x4, xs, rfl, e2.trans e3, e3 _ _ hl2, by rw [show doorsRow w h r 0 = [] from rfl, List.append_nil]; exact D2.mono (ExT.of e3)⟩) ?_ ?_
      · rintro c σ' H' hc' ⟨x3, x4, xs, rfl, e3, hl3, D3⟩
        have hlen : xs.length ≤ 400 := by
          have q1 := D3.length
          have q2 := doorsTo_len w h hw r
          have q3 := doorsRow_len w h r c
          rw [List.length_append] at q1
          omega
        refine s_forNT (xs := [.str "row", .str "column"]) (eu_tup (ea_cons ev_c (ea_cons ev_c ea_nil)) (by decide))
          (fun q i σ' H' => ∃ x4 xs', σ' = [some (.ref a), some (.ref p), some (.int (r : Int)), some (.int (c : Int)), x4] ∧ Ex H H' ∧ H' q = some (.tup [.str "row", .str "column"]) ∧ H' p = some (.lst xs') ∧ xs'.length ≤ 400 + i ∧
            Drs H' xs' (doorsTo w h r ++ doorsRow w h r c ++ (if i = 0 then [] else if i = 1 then (if (c : Int) + 1 < w then [(("row" : Str), (c : Int), (r : Int))] else []) else doorsAt w h r c)))
          (fun q H2 hq e4 hq2 => ⟨x4, xs, rfl, e3.trans e4, hq2, e4 _ _ hl3, by omega, by rw [if_pos rfl, List.append_nil]; exact D3.mono (ExT.of e4)⟩) (fun q i σ' H' _ ⟨_, _, _, _, hq, _⟩ => st_of hq) ?_ ?_
        · rintro q i x σ' H' hi ⟨x4, xs', rfl, e4, hq, hl4, hz, D4⟩
          have hbd : Bd A.C H' (.ref a) w h := hb.mono e4
          have two : (i = 0 ∧ x = .str "row") ∨ (i = 1 ∧ x = .str "column") := by
            match i, hi with
            | 0, hi => exact .inl ⟨rfl, (Option.some.inj hi).symm⟩
            | 1, hi => exact .inr ⟨rfl, (Option.some.inj hi).symm⟩
            | i + 2, hi => cases hi
          have door : ∀ (z : Str) (hx : x = .str z), EvAP (tCons (tTup (tCons (tVar 4) (tCons (tVar 3) (tCons (tVar 2) tNil)))) tNil) [some (.ref a), some (.ref p), some (.int (r : Int)), some (.int (c : Int)), some x] H' (fun vs H1 => ∃ q, vs = [q] ∧ IsDr H1 q (z, (c : Int), (r : Int))) := fun z hx => by
            subst hx
            exact eap_one (ep_tup (ea_cons (ev_var rfl) (ea_cons (ev_var rfl) (ea_cons (ev_var rfl) ea_nil))))
          have door1 : ∀ (z : Str) (hx : x = .str z) H1, Ex H' H1 → EvP (tTup (tCons (tVar 4) (tCons (tVar 3) (tCons (tVar 2) tNil)))) [some (.ref a), some (.ref p), some (.int (r : Int)), some (.int (c : Int)), some x] H1 (fun v H1 => IsDr H1 v (z, (c : Int), (r : Int))) := fun z hx H1 _ => by
            subst hx
            exact ep_tup (ea_cons (ev_var rfl) (ea_cons (ev_var rfl) (ea_cons (ev_var rfl) ea_nil)))
          rcases two with ⟨rfl, hx⟩ | ⟨rfl, hx⟩
          · refine s_when (b := decide ((c : Int) + 1 < w)) (et_is (et_B (ev_has hbd (ev_var rfl) (door "row" hx))) (hasF_row (by omega) (by omega))) (fun hb' H2 e5 => ?_) (fun hb' H2 e5 => ?_)
            · refine s_appP (e5 _ _ hl4) (ev_var rfl) (door1 "row" hx H2 e5) (by omega) fun v H3 e6 pv => ?_
              have hp3 := e6 _ _ (e5 _ _ hl4)
              refine ⟨_, _, rfl, ((e4.trans e5).trans e6).mut hp, ?_, upd_same, by rw [List.length_append]; simp; omega, ?_⟩
              · rw [upd_ne (ne_of (e6 _ _ (e5 _ _ hq)) hp3 (by intro z; cases z))]
                exact e6 _ _ (e5 _ _ hq)
              · rw [if_pos rfl, List.append_nil] at D4
                rw [if_neg (by decide), if_pos rfl, if_pos (of_decide_eq_true hb')]
                refine Drs.snoc (D4.mono ((ExT.of (e5.trans e6)).trans (ExT.upd hp3))) ?_
                obtain ⟨t, h3, h4⟩ := pv
                exact ⟨t, h3, ExT.upd hp3 _ _ h4⟩
            · refine ⟨_, xs', rfl, e4.trans e5, e5 _ _ hq, e5 _ _ hl4, by omega, ?_⟩
              rw [if_neg (by decide), if_pos rfl, if_neg (of_decide_eq_false hb')]
              rw [if_pos rfl] at D4
              exact D4.mono (ExT.of e5)
          · refine s_when (b := decide ((r : Int) + 1 < h)) (et_is (et_B (ev_has hbd (ev_var rfl) (door "column" hx))) (hasF_col (by omega) (by omega))) (fun hb' H2 e5 => ?_) (fun hb' H2 e5 => ?_)
            · refine s_appP (e5 _ _ hl4) (ev_var rfl) (door1 "column" hx H2 e5) (by omega) fun v H3 e6 pv => ?_
              have hp3 := e6 _ _ (e5 _ _ hl4)
              refine ⟨_, _, rfl, ((e4.trans e5).trans e6).mut hp, ?_, upd_same, by rw [List.length_append]; simp; omega, ?_⟩
              · rw [upd_ne (ne_of (e6 _ _ (e5 _ _ hq)) hp3 (by intro z; cases z))]
                exact e6 _ _ (e5 _ _ hq)
              · rw [if_neg (by decide), if_pos rfl] at D4
                rw [if_neg (by decide), if_neg (by decide)]
                unfold doorsAt
                rw [if_pos (of_decide_eq_true hb'), ← List.append_assoc]
                refine Drs.snoc (D4.mono ((ExT.of (e5.trans e6)).trans (ExT.upd hp3))) ?_
                obtain ⟨t, h3, h4⟩ := pv
                exact ⟨t, h3, ExT.upd hp3 _ _ h4⟩
            · refine ⟨_, xs', rfl, e4.trans e5, e5 _ _ hq, e5 _ _ hl4, by omega, ?_⟩
              rw [if_neg (by decide), if_pos rfl] at D4
              rw [if_neg (by decide), if_neg (by decide)]
              unfold doorsAt
              rw [if_neg (of_decide_eq_false hb'), List.append_nil]
              exact D4.mono (ExT.of e5)
        · rintro q σ' H' ⟨x4, xs', rfl, e4, hq, hl4, hz, D4⟩
          refine ⟨_, _, xs', rfl, e4, hl4, ?_⟩
          rw [if_neg (by decide), if_neg (by decide), List.append_assoc] at D4
          exact D4
      · rintro σ' H' ⟨x3, x4, xs, rfl, e3, hl3, D3⟩
        exact ⟨_, _, _, xs, rfl, e3, hl3, D3⟩
    · rintro σ' H' ⟨x2, x3, x4, xs, rfl, e2, hl2, D2⟩
      exact s_ret (ev_var rfl) fun H3 e3 => k _ H3 (e2.trans e3) ⟨p, xs, rfl, hp, e3 _ _ hl2, D2.mono (ExT.of e3)⟩
/-! ### Board(wide, high) -/
def spInit (C NB : Addr) : Sp := fun vs H Q E => ∃ (p dx : Addr) (w h : Int), vs = [.ref p, .int w, .int h] ∧ H p = some (.ins C dx []) ∧
  (okSize w h = true → ∀ (d : Addr) (H' : Hp), H d = none → H' p = some (.ins C dx (bf w h d)) → H' d = some (.dT []) → (∀ b o, H b = some o → b ≠ p → H' b = some o) → Q .non H') ∧ (okSize w h = false → ∀ H', Ex H H' → E (.ref NB) none H')
theorem sc_init : FnScope ["self", "wide", "high"] ["self", "wide", "high"] (defScope s_init) := ⟨rfl, rfl, rfl, by decide +kernel, rfl, by decide +kernel, by decide +kernel⟩
theorem ok_init (T : Txt K mg A) : FnOk P w K mg base (L2.CX P w) 1 A.init A.d_init ["self", "wide", "high"] (spInit A.C A.NB) := by
  have SC := sc_init
  obtain ⟨tW, gW⟩ := T.g_WIDEST
  obtain ⟨tM, gM⟩ := T.g_MOST
  refine T.F_init.okX sc_init (fun vs H Q E h => ?_) (fun cdv A' outer s H vs Q E hr h => ?_)
  · obtain ⟨p, dx, w, h, rfl, _⟩ := h
    rfl
  · obtain ⟨p, dx, w, h, rfl, hp, k1, k2⟩ := h
    refine ⟨_, (pss_cons (ps_if (PW.pt (pw_or (pt_not (pt_chain op_le op_le pe_int (pv 1) (pe_glob (v := .int 12) (by rfl) gW ⟨_, rfl⟩))) (pw_or (pt_not (pt_chain op_le op_le pe_int (pv 2) (pe_glob (v := .int 12) (by rfl) gW ⟨_, rfl⟩))) (pw_or1 (pt_cmpR op_gt (pe_op op_mul (pv 1) (pv 2)) (pe_glob (v := .int 36) (by rfl) gM ⟨_, rfl⟩) (nomark _)))))) (pss_one (ps_raise rfl (takes_of rfl rfl rfl rfl) (pmk_own PySem.F.excBase_ValueError T.x_NB T.g_NoBoard T.k_NB (raises_own T.r_NB T.t_NB) rfl))) pss_nil)
      (pss_cons (ps_fld (pv 0) (pv 1) rfl)
      (pss_cons (ps_fld (pv 0) (pv 2) rfl)
      (pss_one (ps_fld (pv 0) pe_dnewT rfl))))), ?_⟩
    have mul : (!(decide (1 ≤ w) && decide (w ≤ 12))) = false → CMul w h := fun q => by
      simp only [Bool.not_eq_false', Bool.and_eq_true, decide_eq_true_eq] at q
      exact .inl ⟨by omega, by omega⟩
    refine q_when (b := !okSize w h) (et_is (et_or (et_not (et_test (ev_chain ev_c (ev_var rfl) rv_I0 (fun _ => ev_c) (fun _ => rv_I0)))) fun q1 => et_or (et_not (et_test (ev_chain ev_c (ev_var rfl) rv_I0 (fun _ => ev_c) (fun _ => rv_I0)))) fun q2 => et_test (ev_op (ev_op (ev_var rfl) (ev_var rfl) (rv_I (mul q1))) ev_c rv_I0)) ?_) (fun hb' H2 e2 => ?_) (fun hb' H2 e2 => ?_)
    · have e1 : decide (w * h ≤ 36) = !decide (36 < w * h) := by
        by_cases q : w * h ≤ 36
        · rw [decide_eq_true q, decide_eq_false (by omega)]
          rfl
        · rw [decide_eq_false q, decide_eq_true (by omega)]
          rfl
      simp only [okSize, e1, Bool.not_and, Bool.not_not]
    · exact k2 (by simpa using hb') H2 e2
    · have hp2 := e2 _ _ hp
      have ok : okSize w h = true := by simpa using hb'
      refine ⟨_, rfl, _, rfl, p, A.C, dx, _, rfl, hp2, T.cl, T.n_wide, (by show 0 < 1000; decide), _, rfl, _, rfl, p, A.C, dx, _, rfl, upd_same, T.cl, T.n_high, (by show 1 < 1000; decide), ?_⟩
      intro d hd
      have npd : p ≠ d := fun q => by rw [q, upd_same] at hd; cases hd
      refine ⟨_, rfl, p, A.C, dx, _, rfl, Eq.trans (upd_ne npd) upd_same, T.cl, T.n_mirrors, ?_, ?_⟩
      · have n0 := length_putF ("wide" : Str) (.int w) []
        have n1 := length_putF ("high" : Str) (.int h) (putF "wide" (.int w) [])
        simp only [List.length_nil] at n0
        omega
      · rw [upd_ne npd.symm, upd_ne npd.symm] at hd
        refine k1 ok d _ (fresh_back e2 hd) upd_same (by rw [upd_ne npd.symm, upd_same]) fun b o hb hne => ?_
        rw [upd_ne hne, upd_ne (ne_of_none (e2 _ _ hb) hd), upd_ne hne, upd_ne hne]
        exact e2 _ _ hb
/-- Board(wide, high) where there is such a board -/
theorem ep_make {σ : L2.St} {H : Hp} {ta : TA} {w h : Int} {NB : Addr} (ha : EvA ta σ H [.int w, .int h]) (ok : okSize w h = true) : EvP (tMake A.C (spInit A.C NB) [] E0 ta) σ H (fun v H2 => Bd A.C H2 v w h) := fun H1 e Q q =>
  ha H1 e _ fun H2 e2 => fun x dx nx ndx ne => ⟨x, dx, w, h, rfl, upd_same, fun _ d H' hd h1 h2 keep => ⟨rfl, by
    refine q _ _ (fun b o hb => keep b o ?_ (ne_of_none (e2 _ _ hb) nx)) ⟨x, dx, d, rfl, h1, h2⟩
    rw [upd_ne (ne_of_none (e2 _ _ hb) nx), upd_ne (ne_of_none (e2 _ _ hb) ndx)]
    exact e2 _ _ hb⟩, fun z => by rw [ok] at z; cases z⟩
/-! ### the law's own helpers -/
def spCell (K : PySem.W.Frag) : Sp := fun vs H Q _ => ∃ (a : Addr) (ns : List Int) (k : Nat), vs = [.ref a, .int k] ∧ SqL K H a (ns.map V.int) ∧ ∀ H2, Ex H H2 → Q (.int (cel ns k)) H2
theorem sc_cell : FnScope ["script", "k"] ["script", "k"] (defScope s_cell) := ⟨rfl, rfl, rfl, by decide +kernel, rfl, by decide +kernel, by decide +kernel⟩
theorem ok_cell (T : Txt K mg A) : FnOk P w K mg base CX0 1 A.cell A.d_cell ["script", "k"] (spCell K) := by
  have SC := sc_cell
  refine T.F_law_cell_at.ok sc_cell (fun vs H Q E h => ?_) (fun cdv A' outer s H vs Q E hr h => ?_)
  · obtain ⟨a, ns, k, rfl, _⟩ := h
    rfl
  · obtain ⟨a, ns, k, rfl, hS, q⟩ := h
    refine ⟨_, (pss_cons (ps_if (pt_cmpR op_lt (pv 1) (pe_callB call_len_seq (by rfl) T.z_len (by decide +kernel) (pa_cons (pv 0) pa_nil)) (nomark _)) (pss_one (ps_ret (pe_ix ix_list (pv 0) (pv 1) (fun _ _ => rfl)))) pss_nil)
      (pss_one (ps_ret pe_int))), ?_⟩
    refine q_when (b := decide ((k : Int) < (ns.length : Int))) (et_is (et_test (ev_op (ev_var rfl) (ev_len (ev_var rfl) hS) rv_I0)) (by rw [List.length_map])) (fun hb H2 e2 => ?_) (fun hb H2 e2 => ?_)
    · have hk : k < ns.length := by
        have z := of_decide_eq_true hb
        omega
      refine s_ret (ev_op (ev_var rfl) (ev_var rfl) (rv_ixL (ex_l e2 hS) (atI_nat (j := k) ?_))) fun H3 e3 => q H3 (e2.trans e3)
      rw [List.getElem?_map]
      unfold cel
      rw [List.getD_eq_getElem?_getD, List.getElem?_eq_getElem hk]
      rfl
    · have hk : ns.length ≤ k := by
        have z := of_decide_eq_false hb
        omega
      have e0 : cel ns k = 0 := by
        unfold cel
        rw [List.getD_eq_getElem?_getD, List.getElem?_eq_none hk]
        rfl
      refine s_ret (v := .int (cel ns k)) (ev_is ev_c (by rw [e0])) fun H3 e3 => q H3 (e2.trans e3)
theorem ev_cell {σ : L2.St} {H : Hp} {ta : TA} {a : Addr} {ns : List Int} {k : Nat} {E : XK} (hS : SqL K H a (ns.map V.int)) (ha : EvA ta σ H [.ref a, .int k]) : Ev (tCall (spCell K) [] E ta) σ H (.int (cel ns k)) :=
  ev_ep (ep_call (eap_ea ha) fun vs H1 e ev Q E q => by
    subst ev
    exact ⟨a, ns, k, rfl, ex_l e hS, fun H2 e2 => q _ H2 e2 rfl⟩)
def spSize : Sp := fun vs H Q _ => ∃ cell : Int, vs = [.int cell] ∧ ∀ v H2, Ex H H2 → TupAt [.int (sizeOf cell).1, .int (sizeOf cell).2] v H2 → Q v H2
theorem sc_size : FnScope ["cell", "way", "more", "pair"] ["cell"] (defScope s_size) := ⟨rfl, rfl, rfl, by decide +kernel, rfl, by decide +kernel, by decide +kernel⟩
theorem ok_size (T : Txt K mg A) : FnOk P w K mg base CX0 1 A.size A.d_size ["cell"] spSize := by
  have SC := sc_size
  refine T.F_law_size.ok sc_size (fun vs H Q E h => ?_) (fun cdv A' outer s H vs Q E hr h => ?_)
  · obtain ⟨cell, rfl, _⟩ := h
    rfl
  · obtain ⟨cell, rfl, k⟩ := h
    refine ⟨_, (pss_cons (ps_set (i := 1) SC.nd rfl (.inl rfl) (pe_op op_mod (pv 0) pe_int))
      (pss_cons (ps_set (i := 2) SC.nd rfl (.inl rfl) (pe_op op_fdiv (pv 0) pe_int))
      (pss_cons (ps_if (pt_cmpR op_eq (pv 1) pe_int (nomark _)) (pss_cons (ps_set (i := 3) SC.nd rfl (.inl rfl) (pe_ix ix_list (pe_lst (pa_cons (pe_tup (pa_cons pe_int (pa_cons pe_int pa_nil))) (pa_cons (pe_tup (pa_cons pe_int (pa_cons pe_int pa_nil))) (pa_cons (pe_tup (pa_cons pe_int (pa_cons pe_int pa_nil))) (pa_cons (pe_tup (pa_cons pe_int (pa_cons pe_int pa_nil))) pa_nil))))) (pe_op op_mod (pv 2) pe_int) (fun _ _ => rfl)))
      (pss_one (ps_ret (pe_ifExp (pt_cmpR op_eq (pe_op op_mod (pe_op op_fdiv (pv 2) pe_int) pe_int) pe_int (nomark _)) (pv 3) (pe_tup (pa_cons (pe_ix ix_tup (pv 3) pe_int (fun _ _ => rfl)) (pa_cons (pe_ix ix_tup (pv 3) pe_int (fun _ _ => rfl)) pa_nil))))))) pss_nil)
      (pss_cons (ps_if (pt_cmpR op_eq (pv 1) pe_int (nomark _)) (pss_one (ps_ret (pe_tup (pa_cons (pe_op op_add pe_int (pe_op op_mod (pv 2) pe_int)) (pa_cons (pe_op op_add pe_int (pe_op op_mod (pe_op op_fdiv (pv 2) pe_int) pe_int)) pa_nil))))) pss_nil)
      (pss_cons (ps_if (pt_cmpR op_eq (pv 1) pe_int (nomark _)) (pss_one (ps_ret (pe_tup (pa_cons (pe_op op_add pe_int (pe_op op_mod (pv 2) pe_int)) (pa_cons (pe_op op_add pe_int (pe_op op_mod (pe_op op_fdiv (pv 2) pe_int) pe_int)) pa_nil))))) pss_nil)
      (pss_one (ps_ret (pe_tup (pa_cons (pe_op op_add pe_int (pe_op op_mod (pv 2) pe_int)) (pa_cons (pe_op op_add pe_int (pe_op op_mod (pe_op op_fdiv (pv 2) pe_int) pe_int)) pa_nil)))))))))), ?_⟩
    refine q_asg (ev_op (ev_var rfl) ev_c (rv_I (by decide))) fun H1 e1 => ?_
    refine q_asg (ev_op (ev_var rfl) ev_c (rv_I ⟨by decide, by decide⟩)) fun H2 e2 => ?_
    refine q_when (b := decide (cell % 8 = 5)) (et_is (et_test (ev_op (ev_var rfl) ev_c (rv_eq (by rfl)))) (by rw [decide_eq_decide]; exact ⟨V.int.inj, congrArg _⟩)) (fun hb H3 e3 => ?_) (fun hb H3 e3 => ?_)
    · have hw := of_decide_eq_true hb
      refine q_asgP (P := TupAt [.int (pairs (cell / 8 % 4)).1, .int (pairs (cell / 8 % 4)).2]) ?_ fun v H4 e4 pv => ?_
      · refine ep_op (ep_lstP (eap_U (ea_cons ev_c (ea_cons ev_c ea_nil)) (by decide) (eap_U (ea_cons ev_c (ea_cons ev_c ea_nil)) (by decide) (eap_U (ea_cons ev_c (ea_cons ev_c ea_nil)) (by decide) (eap_U (ea_cons ev_c (ea_cons ev_c ea_nil)) (by decide) eap_nil)))) ?_ ?_) ?_
        · rintro vs H1 ⟨v0, r0, rfl, _, v1, r1, rfl, _, v2, r2, rfl, _, v3, r3, rfl, _, rfl⟩
          simp
        · rintro vs Ha Hb e ⟨v0, r0, rfl, p0, v1, r1, rfl, p1, v2, r2, rfl, p2, v3, r3, rfl, p3, rfl⟩
          exact ⟨v0, _, rfl, p0.mono e, v1, _, rfl, p1.mono e, v2, _, rfl, p2.mono e, v3, _, rfl, p3.mono e, rfl⟩
        · rintro x H5 e5 ⟨p, vs, rfl, _, hp, v0, r0, rfl, p0, v1, r1, rfl, p1, v2, r2, rfl, p2, v3, r3, rfl, p3, rfl⟩
          refine (ep_ev (ev_op (ev_var rfl) ev_c (rv_I (by decide)))).imp fun y H6 e6 ey => ?_
          subst ey
          intro Q q
          have m0 : 0 ≤ cell / 8 % 4 := Int.emod_nonneg _ (by decide)
          have m1 : cell / 8 % 4 < 4 := Int.emod_lt_of_pos _ (by decide)
          have cs : cell / 8 % 4 = 0 ∨ cell / 8 % 4 = 1 ∨ cell / 8 % 4 = 2 ∨ cell / 8 % 4 = 3 := by omega
          have go : ∀ (j : Nat) (y : V), cell / 8 % 4 = (j : Int) → [v0, v1, v2, v3][j]? = some y → TupAt [.int (pairs (cell / 8 % 4)).1, .int (pairs (cell / 8 % 4)).2] y H5 → rIxL K (.ref p) (.int (cell / 8 % 4)) H6 Q := fun j y ej ey ty =>
            ⟨p, _, _, y, rfl, rfl, sq_of (e6 _ _ hp), at_of ej ey, q y H6 (Ex.refl _) (ty.mono e6)⟩
          rcases cs with c | c | c | c
          · exact go 0 v0 c rfl (by rw [c]; exact p0)
          · exact go 1 v1 c rfl (by rw [c]; exact p1)
          · exact go 2 v2 c rfl (by rw [c]; exact p2)
          · exact go 3 v3 c rfl (by rw [c]; exact p3)
      · obtain ⟨a, rfl, ha⟩ := pv
        refine s_retP (P := TupAt [.int (sizeOf cell).1, .int (sizeOf cell).2]) (ep_if (b := decide (cell / 8 / 4 % 2 = 0)) (et_is (et_test (ev_op (ev_op (ev_op (ev_var rfl) ev_c (rv_I ⟨by decide, by decide⟩)) ev_c (rv_I (by decide))) ev_c (rv_eq (by rfl)))) (by rw [decide_eq_decide]; exact ⟨V.int.inj, congrArg _⟩)) (fun hb2 => ?_) (fun hb2 => ?_)) fun v H5 e5 pv => k v H5 ((((e1.trans e2).trans e3).trans e4).trans e5) pv
        · refine (ep_ev (ev_var rfl)).imp fun y H5 e5 ey => ?_
          subst ey
          refine ⟨a, rfl, ?_⟩
          have es : sizeOf cell = pairs (cell / 8 % 4) := by rw [sizeOf, if_pos hw, if_pos (of_decide_eq_true hb2)]
          rw [es]
          exact e5 _ _ ha
        · refine (ep_tup (ea_cons (ev_op (ev_var rfl) ev_c (rv_ixT (st_of ha) (atI_nat (j := 1) rfl))) (ea_cons (ev_op (ev_var rfl) ev_c (rv_ixT (st_of ha) (atI_nat (j := 0) rfl))) ea_nil))).imp fun y H5 e5 py => ?_
          have es : sizeOf cell = ((pairs (cell / 8 % 4)).2, (pairs (cell / 8 % 4)).1) := by rw [sizeOf, if_pos hw, if_neg (of_decide_eq_false hb2)]
          rw [es]
          exact py
    · have hw := of_decide_eq_false hb
      refine q_when (b := decide (cell % 8 = 6)) (et_is (et_test (ev_op (ev_var rfl) ev_c (rv_eq (by rfl)))) (by rw [decide_eq_decide]; exact ⟨V.int.inj, congrArg _⟩)) (fun hb2 H4 e4 => ?_) (fun hb2 H4 e4 => ?_)
      · refine s_retP (ep_tup (ea_cons (ev_op ev_c (ev_op (ev_var rfl) ev_c (rv_I (by decide))) rv_I0) (ea_cons (ev_op ev_c (ev_op (ev_op (ev_var rfl) ev_c (rv_I ⟨by decide, by decide⟩)) ev_c (rv_I (by decide))) rv_I0) ea_nil))) fun v H5 e5 pv => k v H5 ((((e1.trans e2).trans e3).trans e4).trans e5) ?_
        rw [sizeOf, if_neg hw, if_pos (of_decide_eq_true hb2)]
        exact pv
      · have hw2 := of_decide_eq_false hb2
        refine q_when (b := decide (cell % 8 = 7)) (et_is (et_test (ev_op (ev_var rfl) ev_c (rv_eq (by rfl)))) (by rw [decide_eq_decide]; exact ⟨V.int.inj, congrArg _⟩)) (fun hb3 H5 e5 => ?_) (fun hb3 H5 e5 => ?_)
        · refine s_retP (ep_tup (ea_cons (ev_op ev_c (ev_op (ev_var rfl) ev_c (rv_I (by decide))) rv_I0) (ea_cons (ev_op ev_c (ev_op (ev_op (ev_var rfl) ev_c (rv_I ⟨by decide, by decide⟩)) ev_c (rv_I (by decide))) rv_I0) ea_nil))) fun v H6 e6 pv => k v H6 (((((e1.trans e2).trans e3).trans e4).trans e5).trans e6) ?_
          rw [sizeOf, if_neg hw, if_neg hw2, if_pos (of_decide_eq_true hb3)]
          exact pv
        · have hw3 := of_decide_eq_false hb3
          refine s_retP (ep_tup (ea_cons (ev_op ev_c (ev_op (ev_var rfl) ev_c (rv_I (by decide))) rv_I0) (ea_cons (ev_op ev_c (ev_op (ev_op (ev_var rfl) ev_c (rv_I ⟨by decide, by decide⟩)) ev_c (rv_I (by decide))) rv_I0) ea_nil))) fun v H6 e6 pv => k v H6 (((((e1.trans e2).trans e3).trans e4).trans e5).trans e6) ?_
          rw [sizeOf, if_neg hw, if_neg hw2, if_neg hw3]
          exact pv
def spLDoors : Sp := fun vs H Q _ => ∃ (w h : Int), vs = [.int w, .int h] ∧ 0 ≤ w ∧ w ≤ 12 ∧ 0 ≤ h ∧ h ≤ 12 ∧ ∀ v H2, Ex H H2 → NewDrs H (doorsL w h) v H2 → Q v H2
theorem sc_ldoors : FnScope ["wide", "high", "found", "row", "column"] ["wide", "high"] (defScope s_ldoors) := ⟨rfl, rfl, rfl, by decide +kernel, rfl, by decide +kernel, by decide +kernel⟩
theorem ok_ldoors (T : Txt K mg A) : FnOk P w K mg base CX0 1 A.ldoors A.d_ldoors ["wide", "high"] spLDoors := by
  have SC := sc_ldoors
  refine T.F_law_doors.ok sc_ldoors (fun vs H Q E h => ?_) (fun cdv A' outer s H vs Q E hr h => ?_)
  · obtain ⟨w, h, rfl, _⟩ := h
    rfl
  · obtain ⟨w, h, rfl, hw0, hw, hh0, hh, k⟩ := h
    refine ⟨_, (pss_cons (ps_set (i := 2) SC.nd rfl (.inl rfl) (pe_lst pa_nil))
      (pss_cons (ps_for PassesOwn.never rfl (pi_range1 (by rfl) T.z_range (pa_cons (pv 1) pa_nil)) (pg_name (i := 3) SC.nd rfl (.inl rfl))
      (pss_one (ps_for PassesOwn.never rfl (pi_range1 (by rfl) T.z_range (pa_cons (pv 0) pa_nil)) (pg_name (i := 4) SC.nd rfl (.inl rfl))
      (pss_cons (ps_if (pt_cmpR op_lt (pe_op op_add (pv 4) pe_int) (pv 0) (nomark _)) (pss_one (ps_expr (pe_bm PySem.F.plainAttrs_list PySem.F.slot_list_append PySem.F.type_list_append mt_append (pv 2) (pa_cons (pe_tup (pa_cons pe_str (pa_cons (pv 4) (pa_cons (pv 3) pa_nil)))) pa_nil)))) pss_nil)
      (pss_one (ps_if (pt_cmpR op_lt (pe_op op_add (pv 3) pe_int) (pv 1) (nomark _)) (pss_one (ps_expr (pe_bm PySem.F.plainAttrs_list PySem.F.slot_list_append PySem.F.type_list_append mt_append (pv 2) (pa_cons (pe_tup (pa_cons pe_str (pa_cons (pv 4) (pa_cons (pv 3) pa_nil)))) pa_nil)))) pss_nil))))))
      (pss_one (ps_ret (pv 2))))), ?_⟩
    refine q_asgL (el_lst ea_nil (by decide)) fun p H1 hp e1 hl => ?_
    refine q_forR1 (n := h) (ea_cons (ev_var rfl) ea_nil) ⟨hh0, by omega⟩ (fun i σ' H' => ∃ x3 x4 xs, σ' = [some (.int w), some (.int h), some (.ref p), x3, x4] ∧ Ex H H' ∧ H' p = some (.lst xs) ∧ Drs H' xs (doorsTo w h i)) (fun H2 e2 => ⟨none, none, [], rfl, e1.trans e2, e2 _ _ hl, .nil⟩) ?_ ?_
    · rintro r σ' H' hr' ⟨x3, x4, xs, rfl, e2, hl2, D2⟩
      refine s_forR1 (n := w) (ea_cons (ev_var rfl) ea_nil) ⟨hw0, by omega⟩ (fun i σ' H' => ∃ x4 xs, σ' = [some (.int w), some (.int h), some (.ref p), some (.int (r : Int)), x4] ∧ Ex H H' ∧ H' p = some (.lst xs) ∧ Drs H' xs (doorsTo w h r ++ doorsRow w h r i)) (fun H2 e3 => ⟨x4, xs, rfl, e2.trans e3, e3 _ _ hl2, by rw [show doorsRow w h r 0 = [] from rfl, List.append_nil]; exact D2.mono (ExT.of e3)⟩) ?_ ?_
      · rintro c σ' H' hc' ⟨x4, xs, rfl, e3, hl3, D3⟩
        have hlen : xs.length ≤ 400 := by
          have q1 := D3.length
          have q2 := doorsTo_len w h hw r
          have q3 := doorsRow_len w h r c
          rw [List.length_append] at q1
          omega
        -- the door to the south, where there is one
        have south : ∀ (H4 : Hp) (xs4 : List V) (ds : List Door), Ex H H4 → H4 p = some (.lst xs4) → xs4.length ≤ 401 → Drs H4 xs4 ds →
            ds = doorsTo w h r ++ doorsRow w h r c ++ (if (c : Int) + 1 < w then [(("row" : Str), (c : Int), (r : Int))] else []) →
            tIfS (tTest (tOp (rI0 fun i j => .bl (decide (i < j))) (tOp (rI0 fun i j => .int (i + j)) (tVar 3) (tC (.int 1))) (tVar 1))) (tDrop (tBM K "list" rAppend (tVar 2) (tCons (tTup (tCons (tC (.str "column")) (tCons (tVar 4) (tCons (tVar 3) tNil)))) tNil))) tNext
              { nx := fun σ' H' => ∃ x4 xs, σ' = [some (.int w), some (.int h), some (.ref p), some (.int (r : Int)), x4] ∧ Ex H H' ∧ H' p = some (.lst xs) ∧ Drs H' xs (doorsTo w h r ++ doorsRow w h r (c + 1)), rt := Q, ct := fun σ' H' => ∃ x4 xs, σ' = [some (.int w), some (.int h), some (.ref p), some (.int (r : Int)), x4] ∧ Ex H H' ∧ H' p = some (.lst xs) ∧ Drs H' xs (doorsTo w h r ++ doorsRow w h r (c + 1)), bk := fun σ' H' => ∃ x3 x4 xs, σ' = [some (.int w), some (.int h), some (.ref p), x3, x4] ∧ Ex H H' ∧ H' p = some (.lst xs) ∧ Drs H' xs (doorsTo w h (r + 1)) } [some (.int w), some (.int h), some (.ref p), some (.int (r : Int)), some (.int (c : Int))] H4 := fun H4 xs4 ds e4 hl4 hz D4 ed => by
          refine s_when (b := decide ((r : Int) + 1 < h)) (et_is (et_test (ev_op (ev_op (ev_var rfl) ev_c rv_I0) (ev_var rfl) rv_I0)) rfl) (fun hb H5 e5 => ?_) (fun hb H5 e5 => ?_)
          · refine s_appP (e5 _ _ hl4) (ev_var rfl) (ep_tup (ea_cons ev_c (ea_cons (ev_var rfl) (ea_cons (ev_var rfl) ea_nil)))) (by omega) fun v H6 e6 pv => ?_
            have hp6 := e6 _ _ (e5 _ _ hl4)
            refine ⟨_, _, rfl, ((e4.trans e5).trans e6).mut hp, upd_same, ?_⟩
            have e7 : doorsTo w h r ++ doorsRow w h r (c + 1) = ds ++ [(("column" : Str), (c : Int), (r : Int))] := by
              rw [ed, show doorsRow w h r (c + 1) = doorsRow w h r c ++ doorsAt w h r c from rfl]
              unfold doorsAt
              rw [if_pos (of_decide_eq_true hb)]
              simp only [List.append_assoc]
            rw [e7]
            refine Drs.snoc (D4.mono ((ExT.of (e5.trans e6)).trans (ExT.upd hp6))) ?_
            obtain ⟨t, h3, h4⟩ := pv
            exact ⟨t, h3, ExT.upd hp6 _ _ h4⟩
          · refine ⟨_, xs4, rfl, e4.trans e5, e5 _ _ hl4, ?_⟩
            have e7 : doorsTo w h r ++ doorsRow w h r (c + 1) = ds := by
              rw [ed, show doorsRow w h r (c + 1) = doorsRow w h r c ++ doorsAt w h r c from rfl]
              unfold doorsAt
              rw [if_neg (of_decide_eq_false hb), List.append_nil, List.append_assoc]
            rw [e7]
            exact D4.mono (ExT.of e5)
        refine q_when (b := decide ((c : Int) + 1 < w)) (et_is (et_test (ev_op (ev_op (ev_var rfl) ev_c rv_I0) (ev_var rfl) rv_I0)) rfl) (fun hb H4 e4 => ?_) (fun hb H4 e4 => ?_)
        · refine s_appP (e4 _ _ hl3) (ev_var rfl) (ep_tup (ea_cons ev_c (ea_cons (ev_var rfl) (ea_cons (ev_var rfl) ea_nil)))) (by omega) fun v H5 e5 pv => ?_
          have hp5 := e5 _ _ (e4 _ _ hl3)
          refine south _ _ _ ((e3.trans (e4.trans e5)).mut hp) upd_same (by rw [List.length_append]; simp; omega) (Drs.snoc (d := (("row" : Str), (c : Int), (r : Int))) (D3.mono ((ExT.of (e4.trans e5)).trans (ExT.upd hp5))) ?_) ?_
          · obtain ⟨t, h3, h4⟩ := pv
            exact ⟨t, h3, ExT.upd hp5 _ _ h4⟩
          · rw [if_pos (of_decide_eq_true hb)]
        · refine south H4 xs _ (e3.trans e4) (e4 _ _ hl3) (by omega) (D3.mono (ExT.of e4)) ?_
          rw [if_neg (of_decide_eq_false hb), List.append_nil]
      · rintro σ' H' ⟨x4, xs, rfl, e3, hl3, D3⟩
        exact ⟨_, _, xs, rfl, e3, hl3, D3⟩
    · rintro σ' H' ⟨x3, x4, xs, rfl, e2, hl2, D2⟩
      exact s_ret (ev_var rfl) fun H3 e3 => k _ H3 (e2.trans e3) ⟨p, xs, rfl, hp, e3 _ _ hl2, D2.mono (ExT.of e3)⟩
def spNumber : Sp := fun vs H Q _ => ∃ cell : Int, vs = [.int cell] ∧ ∀ H2, Ex H H2 → Q (.int (numOf cell)) H2
theorem sc_number : FnScope ["cell"] ["cell"] (defScope s_number) := ⟨rfl, rfl, rfl, by decide +kernel, rfl, by decide +kernel, by decide +kernel⟩
theorem ok_number (T : Txt K mg A) : FnOk P w K mg base CX0 1 A.number A.d_number ["cell"] spNumber := by
  have SC := sc_number
  refine T.F_law_number.ok sc_number (fun vs H Q E h => ?_) (fun cdv A' outer s H vs Q E hr h => ?_)
  · obtain ⟨cell, rfl, _⟩ := h
    rfl
  · obtain ⟨cell, rfl, k⟩ := h
    refine ⟨_, (pss_cons (ps_if (pt_cmpR op_eq (pe_op op_mod (pv 0) pe_int) pe_int (nomark _)) (pss_one (ps_ret (pe_op op_mul (pe_ix ix_list (pe_lst (pa_cons (pe_un un_neg pe_int) (pa_cons pe_int pa_nil))) (pe_op op_mod (pe_op op_fdiv (pv 0) pe_int) pe_int) (fun _ _ => rfl)) (pe_op op_mod (pe_op op_fdiv (pv 0) pe_int) (pe_op op_pow pe_int pe_int))))) pss_nil)
      (pss_one (ps_ret (pe_op op_sub (pe_op op_mod (pe_op op_fdiv (pv 0) pe_int) pe_int) pe_int)))), ?_⟩
    refine q_when (b := decide (cell % 9 = 8)) (et_is (et_test (ev_op (ev_op (ev_var rfl) ev_c (rv_I (by decide))) ev_c (rv_eq (by rfl)))) (by rw [decide_eq_decide]; exact ⟨V.int.inj, congrArg _⟩)) (fun hb H2 e2 => ?_) (fun hb H2 e2 => ?_)
    · have hw := of_decide_eq_true hb
      have m0 : 0 ≤ cell / 9 % 2 := Int.emod_nonneg _ (by decide)
      have m1 : cell / 9 % 2 < 2 := Int.emod_lt_of_pos _ (by decide)
      refine s_ret (v := .int (numOf cell)) (ev_is (ev_op (x := .int (if cell / 9 % 2 = 0 then -1 else 1)) (y := .int (cell / 18 % 10 ^ 20)) (ev_opL1 (el_lst (vs := [.int (-1), .int 1]) (ea_cons (ev_un ev_c ru_neg) (ea_cons ev_c ea_nil)) (by decide)) (fun H3 _ => (ev_op (ev_op (ev_var rfl) ev_c (rv_I ⟨by decide, by decide⟩)) ev_c (rv_I (by decide)))) fun p H3 hp _ => rv_ixL (sq_of hp) ?_) (ev_op (ev_op (ev_var rfl) ev_c (rv_I ⟨by decide, by decide⟩)) (ev_op ev_c ev_c (rv_I ⟨by decide, by decide, by decide⟩)) (rv_I (by decide))) (rv_I (.inl ?_))) ?_) fun H3 e3 => k H3 (e2.trans e3)
      · have cs : cell / 9 % 2 = 0 ∨ cell / 9 % 2 = 1 := by omega
        rcases cs with c | c
        · exact at_of (j := 0) c (by rw [if_pos c]; rfl)
        · exact at_of (j := 1) c (by rw [if_neg (by omega)]; rfl)
      · split <;> exact ⟨by decide, by decide⟩
      · rw [numOf, if_pos hw]
    · have hw := of_decide_eq_false hb
      refine s_ret (v := .int (numOf cell)) (ev_is (ev_op (ev_op (ev_op (ev_var rfl) ev_c (rv_I ⟨by decide, by decide⟩)) ev_c (rv_I (by decide))) ev_c rv_I0) ?_) fun H3 e3 => k H3 (e2.trans e3)
      rw [numOf, if_neg hw]
/-! ### isinstance(e, ..) in the suite -/
def rIsE' (K : PySem.W.Frag) (D a : Addr) (cls : Value) (d : Option Addr) : List V → Hp → VK → Prop := fun xs H Q => cls = .ref D ∧ d = none ∧ rIsE K D a xs H Q
theorem call_isE' {X : Cx} {a D : Addr} {oe : Obj} {pn : List (Addr × Obj)} {cls : Value} {d : Option Addr} (C : ExcC X.K D) (hz : Zc cls d oe) (hf : ∃ vs, oe.data = .fields vs) : CallR (X.suite a ((a, oe) :: pn)) (.builtin "isinstance") (rIsE' X.K D a cls d) := by
  intro pins s σ H xs us Q I r h
  obtain ⟨rfl, rfl, h⟩ := h
  exact call_isE C hz hf pins s σ H xs us Q I r h
theorem ev_isE {σ : L2.St} {H : Hp} {te tc : TE} {D a : Addr} {c : V} {cv : Value} {b : Bool} (he : Ev te σ H (.ref a)) (hc : Ev tc σ H c) (hv : ∀ u, RelV c u → u = cv) (hk : PySem.W.kitOne K (.ref D) cv = some b) :
    Ev (tCB (rIsE' K D a (.ref D) none) (tCons te (tCons tc tNil))) σ H (.bl b) := fun H1 e Q q =>
  he H1 e _ fun H2 e2 => hc H2 (e.trans e2) _ fun H3 e3 => ⟨rfl, rfl, c, cv, b, rfl, hv, hk, q H3 (e2.trans e3)⟩
def spRefused : Sp := fun vs H Q _ => ∃ (w h : Int), vs = [.int w, .int h] ∧ okSize w h = false ∧ ∀ H2, Ex H H2 → Q (.bl true) H2
theorem sc_refused : FnScope ["wide", "high", "turn", "e"] ["wide", "high"] (defScope s_refused) := ⟨rfl, rfl, rfl, by decide +kernel, rfl, by decide +kernel, by decide +kernel⟩
theorem ok_refused (T : Txt K mg A) : FnOk P w K mg base CX0 3 A.refused A.d_refused ["wide", "high"] spRefused := by
  have SC := sc_refused
  have G_Board_init : FnOk P w K mg base (L2.CX P w) 1 A.init A.d_init ["self", "wide", "high"] (spInit A.C A.NB) := ok_init T
  refine T.F_law_refused.ok sc_refused (fun vs H Q E h => ?_) (fun cdv A' outer s H vs Q E hr h => ?_)
  · obtain ⟨w, h, rfl, _⟩ := h
    rfl
  · obtain ⟨w, h, rfl, hbad, k⟩ := h
    refine ⟨_, (pss_cons (ps_for PassesOwn.never rfl (pi_range1 (by rfl) T.z_range (pa_cons pe_int pa_nil)) (pg_name (i := 2) SC.nd rfl (.inl rfl))
      (pss_one (ps_try_as (i := 3) rfl rfl SC.nd rfl rfl ⟨rfl, by decide, .inl T.g_NoBoard⟩ takes0 (fun W pn xe tk _ => pss_cons (ps_expr (pe_makeS (E := WE W) T.M_Board G_Board_init (hr.mono (by decide)) (by rfl) T.g_Board T.b_Board_init (fun σ => passAt tk σ) (pa_cons (pv 0) (pa_cons (pv 1) pa_nil)))) (pss_one (ps_ret pe_bl))) (fun a oe cls d pn hz hf => (pss_cons (ps_if (PW.pt (pw_or (pt_not (pt_val (pe_callB (call_isE' T.c_NB hz hf) (by rfl) T.z_isinstance (by decide +kernel) (pa_cons (pv 3) (pa_cons (pe_glob (v := .ref A.SE) (by rfl) T.g_SandError rfl) pa_nil))))) (pw_or1 (pt_not (pt_val (pe_callB (call_isE' T.c_NB hz hf) (by rfl) T.z_isinstance (by decide +kernel) (pa_cons (pv 3) (pa_cons (pe_bltn (v := .ty "ValueError") (by rfl) T.z_ValueError (by decide +kernel) rfl) pa_nil)))))))) (pss_one (ps_ret pe_bl)) pss_nil) (pss_one (ps_if (PW.pt (pw_or (pt_val (pe_callB (call_isE' T.c_NB hz hf) (by rfl) T.z_isinstance (by decide +kernel) (pa_cons (pv 3) (pa_cons (pe_glob (v := .ref A.ND) (by rfl) T.g_NoDoor rfl) pa_nil)))) (pw_or (pt_val (pe_callB (call_isE' T.c_NB hz hf) (by rfl) T.z_isinstance (by decide +kernel) (pa_cons (pv 3) (pa_cons (pe_glob (v := .ref A.NS) (by rfl) T.g_NoSign rfl) pa_nil)))) (pw_or1 (pt_val (pe_callB (call_isE' T.c_NB hz hf) (by rfl) T.z_isinstance (by decide +kernel) (pa_cons (pv 3) (pa_cons (pe_glob (v := .ref A.NDr) (by rfl) T.g_NoDrawing rfl) pa_nil)))))))) (pss_one (ps_ret pe_bl)) pss_nil)))))))
      (pss_one (ps_ret pe_bl))), ?_⟩
    refine q_forR1 (n := 2) (ea_cons ev_c ea_nil) ⟨by decide, by decide⟩ (fun i σ' H' => ∃ x2 x3, σ' = [some (.int w), some (.int h), x2, x3] ∧ Ex H H') (fun H2 e2 => ⟨none, none, rfl, e2⟩) ?_ ?_
    · rintro i σ' H' hi ⟨x2, x3, rfl, e2⟩
      -- Board(wide, high) raises
      refine ⟨_, rfl, _, rfl, fun x dx nx ndx ne => ⟨x, dx, w, h, rfl, upd_same, (fun ok => by rw [hbad] at ok; cases ok), fun _ H3 e3 => ?_⟩⟩
      refine ⟨true, T.e_NB, fun _ a ha => ?_, fun q => nomatch q⟩
      have e4 : Ex H' H3 := fun b o hb => e3 _ _ (by
        rw [upd_ne (ne_of_none hb nx), upd_ne (ne_of_none hb ndx)]
        exact hb)
      refine q_when (b := false) (et_or (a := false) (b := false) (et_not (a := true) (et_B (ev_isE (ev_var rfl) ev_c (fun u r => r) T.i_SE))) fun _ => et_not (a := true) (et_B (ev_isE (ev_var rfl) ev_c (fun u r => r) T.i_VE))) (fun z => nomatch z) (fun _ H4 e5 => ?_)
      refine s_when (b := false) (et_or (a := false) (b := false) (et_B (ev_isE (ev_var rfl) ev_c (fun u r => r) T.i_ND)) fun _ => et_or (a := false) (b := false) (et_B (ev_isE (ev_var rfl) ev_c (fun u r => r) T.i_NS)) fun _ => et_B (ev_isE (ev_var rfl) ev_c (fun u r => r) T.i_NDr)) (fun z => nomatch z) (fun _ H5 e6 => ?_)
      exact ⟨_, _, rfl, ((e2.trans e4).trans e5).trans e6⟩
    · rintro σ' H' ⟨x2, x3, rfl, e2⟩
      exact s_ret ev_c fun H3 e3 => k H3 (e2.trans e3)
/-! ### _law_doors_right -/
theorem ty_int {H : Hp} (i : Int) : TyX K H (.int i) (.type "int") := .base (.int i)
theorem kit_ii : PySem.W.kitOne K (.type "int") (.type "int") = some true := kit_ty (by decide +kernel)
theorem kit_ib : PySem.W.kitOne K (.type "int") (.type "bool") = some false := kit_ty (by decide +kernel)
theorem kit_ll : PySem.W.kitOne K (.type "list") (.type "list") = some true := kit_ty (by decide +kernel)
theorem kit_tt : PySem.W.kitOne K (.type "tuple") (.type "tuple") = some true := kit_ty (by decide +kernel)
theorem kit_ss : PySem.W.kitOne K (.type "str") (.type "str") = some true := kit_ty (by decide +kernel)
theorem eu_slT {σ : L2.St} {H : Hp} {te : TE} {tl th : TO} {a : Addr} {xs : List V} {lo hi : Option Int} (h : Ev te σ H (.ref a)) (h1 : EvO tl σ H lo) (h2 : EvO th σ H hi) (hs : SqT K H a xs) (hn : ¬ (HT.sIx xs.length 0 lo = 0 ∧ HT.sIx xs.length xs.length hi = xs.length)) :
    EvU (tSl (rSlT K) te tl th) σ H (cutV xs lo hi) := fun H1 e _ q =>
  h H1 e _ fun H2 e2 => h1 H2 (e.trans e2) _ fun H3 e3 => h2 H3 ((e.trans e2).trans e3) _ fun H4 e4 =>
    ⟨a, xs, rfl, ex_t (((e.trans e2).trans e3).trans e4) hs, hn, fun p hp => q p _ (fresh_back ((e2.trans e3).trans e4) hp) (((e2.trans e3).trans e4).trans (Ex.new hp)) upd_same⟩
theorem dp_doors {H : Hp} {p : Addr} {xs : List V} {ds : List Door} (hp : H p = some (.lst xs)) (D : Drs H xs ds) : Dp K H (.ref p) (.list (ds.map doorD)) := .lst (sq_of hp) (dpa_doors D)
theorem eqv_doors {ds : List Door} (h : ∀ d ∈ ds, PyData.strOk d.1 = true) : PyData.eqv (.list (ds.map doorD)) (.list (ds.map doorD)) = true := SeqAt.eqv_refl _ (SeqAt.canLay_of_shaped (shaped_doors h))
def spDRight : Sp := fun vs H Q _ => ∃ (p q : Addr) (xs ys : List V) (ds : List Door), vs = [.ref p, .ref q] ∧ H p = some (.lst xs) ∧ H q = some (.lst ys) ∧ Drs H xs ds ∧ Drs H ys ds ∧ (∀ d ∈ ds, PyData.strOk d.1 = true) ∧ ∀ H2, Ex H H2 → Q (.bl true) H2
theorem sc_dright : FnScope ["found", "due", "door", "part"] ["found", "due"] (defScope s_dright) := ⟨rfl, rfl, rfl, by decide +kernel, rfl, by decide +kernel, by decide +kernel⟩
theorem ok_dright (T : Txt K mg A) : FnOk P w K mg base CX0 1 A.dright A.d_dright ["found", "due"] spDRight := by
  have SC := sc_dright
  refine T.F_law_doors_right.ok sc_dright (fun vs H Q E h => ?_) (fun cdv A' outer s H vs Q E hr h => ?_)
  · obtain ⟨p, q, xs, ys, ds, rfl, _⟩ := h
    rfl
  · obtain ⟨p, q, xs, ys, ds, rfl, hp, hq, D1, D2, hok, k⟩ := h
    refine ⟨_, (pss_cons (ps_if (PW.pt (pw_or (pt_not (pt_val (pe_callB call_isi (by rfl) T.z_isinstance (by decide +kernel) (pa_cons (pv 0) (pa_cons (pe_bltn (v := .ty "list") (by rfl) T.z_list (by decide +kernel) rfl) pa_nil))))) (pw_or1 (pt_cmpR op_ne (pe_callB call_len_seq (by rfl) T.z_len (by decide +kernel) (pa_cons (pv 0) pa_nil)) (pe_callB call_len_seq (by rfl) T.z_len (by decide +kernel) (pa_cons (pv 1) pa_nil)) (nomark _))))) (pss_one (ps_ret pe_bl)) pss_nil)
      (pss_cons (ps_for PassesOwn.never rfl (pi_list (pv 0)) (pg_name (i := 2) SC.nd rfl (.inl rfl))
      (pss_cons (ps_if (PW.pt (pw_or (pt_not (pt_val (pe_callB call_isi (by rfl) T.z_isinstance (by decide +kernel) (pa_cons (pv 2) (pa_cons (pe_bltn (v := .ty "tuple") (by rfl) T.z_tuple (by decide +kernel) rfl) pa_nil))))) (pw_or (pt_cmpR op_ne (pe_callB call_len_seq (by rfl) T.z_len (by decide +kernel) (pa_cons (pv 2) pa_nil)) pe_int (nomark _)) (pw_or1 (pt_not (pt_val (pe_callB call_isi (by rfl) T.z_isinstance (by decide +kernel) (pa_cons (pe_ix ix_tup (pv 2) pe_int (fun _ _ => rfl)) (pa_cons (pe_bltn (v := .ty "str") (by rfl) T.z_str (by decide +kernel) rfl) pa_nil))))))))) (pss_one (ps_ret pe_bl)) pss_nil)
      (pss_one (ps_for PassesOwn.never rfl (pi_tup (pe_slice sl_tup (pv 2) (po_some pe_int) po_none)) (pg_name (i := 3) SC.nd rfl (.inl rfl))
      (pss_one (ps_if (PW.pt (pw_or (pt_not (pt_val (pe_callB call_isi (by rfl) T.z_isinstance (by decide +kernel) (pa_cons (pv 3) (pa_cons (pe_bltn (v := .ty "int") (by rfl) T.z_int (by decide +kernel) rfl) pa_nil))))) (pw_or1 (pt_val (pe_callB call_isi (by rfl) T.z_isinstance (by decide +kernel) (pa_cons (pv 3) (pa_cons (pe_bltn (v := .ty "bool") (by rfl) T.z_bool (by decide +kernel) rfl) pa_nil))))))) (pss_one (ps_ret pe_bl)) pss_nil))))))
      (pss_one (ps_ret (pe_cmpR (op_eqD hr.units) (pv 0) (pv 1) (nomark _)))))), ?_⟩
    refine q_when (b := false) (et_or (a := false) (b := false) (et_not (a := true) (et_B (ev_isi (ev_var rfl) (fun H1 e => .base (.lst (e _ _ hp))) kit_ll))) fun _ => et_is (et_test (ev_op (ev_len (ev_var rfl) (sq_of hp)) (ev_len (ev_var rfl) (sq_of hq)) (rv_ne (by rfl)))) ?_) (fun z => nomatch z) (fun _ H1 e1 => ?_)
    · rw [D1.length, D2.length, decide_eq_true rfl]
      rfl
    refine q_forLn (a := p) (xs := xs) (ev_var rfl) (sq_of (e1 _ _ hp)) (fun i σ' H' => ∃ x2 x3, σ' = [some (.ref p), some (.ref q), x2, x3] ∧ Ex H H') (fun H2 e2 => ⟨none, none, rfl, e1.trans e2⟩) (fun i σ' H' _ ⟨_, _, _, e⟩ => sq_of (e _ _ hp)) ?_ ?_
    · rintro i x σ' H' hi ⟨x2, x3, rfl, e2⟩
      obtain ⟨d, hd, t, rfl, ht⟩ := D1.get hi
      have ht' := e2 _ _ ht
      refine q_when (b := false) (et_or (a := false) (b := false) (et_not (a := true) (et_B (ev_isi (ev_var rfl) (fun H1 e => .base (.tup (e _ _ ht'))) kit_tt))) fun _ => et_or (a := false) (b := false) (et_is (et_test (ev_op (ev_lenT (ev_var rfl) (st_of ht')) ev_c (rv_ne (by rfl)))) (by rfl)) fun _ => et_not (a := true) (et_B (ev_isi (x := .str d.1) (ev_op (ev_var rfl) ev_c (rv_ixT (st_of ht') (atI_nat (j := 0) rfl))) (fun H1 e => .base (.str _)) kit_ss))) (fun z => nomatch z) (fun _ H3 e3 => ?_)
      refine s_forNT (xs := [.int d.2.1, .int d.2.2]) ?_ (fun u j σ' H' => ∃ x3, σ' = [some (.ref p), some (.ref q), some (.ref t), x3] ∧ Ex H H' ∧ H' u = some (.tup [.int d.2.1, .int d.2.2])) (fun u H4 hu e4 hu2 => ⟨x3, rfl, (e2.trans e3).trans e4, hu2⟩) (fun u j σ' H' _ ⟨_, _, _, hu⟩ => st_of hu) ?_ ?_
      · refine eu_slT (lo := some 1) (hi := none) (xs := [.str d.1, .int d.2.1, .int d.2.2]) (ev_var rfl) (eo_some ev_c) eo_none (st_of (e3 _ _ ht')) ?_
        rintro ⟨z, _⟩
        cases z
      · rintro u j y σ' H' hj ⟨x3, rfl, e4, hu⟩
        obtain ⟨z, rfl⟩ : ∃ z, y = V.int z := by
          match j, hj with
          | 0, hj => exact ⟨_, (Option.some.inj hj).symm⟩
          | 1, hj => exact ⟨_, (Option.some.inj hj).symm⟩
          | j + 2, hj => cases hj
        refine s_when (b := false) (et_or (a := false) (b := false) (et_not (a := true) (et_B (ev_isi (ev_var rfl) (fun H1 e => ty_int _) kit_ii))) fun _ => et_B (ev_isi (ev_var rfl) (fun H1 e => ty_int _) kit_ib)) (fun z => nomatch z) (fun _ H5 e5 => ?_)
        exact ⟨_, rfl, e4.trans e5, e5 _ _ hu⟩
      · rintro u σ' H' ⟨x3, rfl, e4, hu⟩
        exact ⟨_, _, rfl, e4⟩
    · rintro σ' H' ⟨x2, x3, rfl, e2⟩
      refine s_ret (v := .bl true) (ev_op (ev_var rfl) (ev_var rfl) (rv_val fun H3 e3 Q q => ?_)) fun H3 e3 => k H3 (e2.trans e3)
      have e4 := e2.trans e3
      refine ⟨_, _, dp_doors (e4 _ _ hp) (D1.mono (ExT.of e4)), dp_doors (e4 _ _ hq) (D2.mono (ExT.of e4)), shaped_doors hok, shaped_doors hok, ?_⟩
      rw [eqv_doors hok]
      exact q
/-! ### the law -/
theorem ev_number {σ : L2.St} {H : Hp} {ta : TA} {c : Int} {E : XK} (ha : EvA ta σ H [.int c]) : Ev (tCall spNumber [] E ta) σ H (.int (numOf c)) :=
  ev_ep (ep_call (eap_ea ha) fun vs H1 e ev Q E q => by
    subst ev
    exact ⟨c, rfl, fun H2 e2 => q _ H2 e2 rfl⟩)
theorem ep_size {σ : L2.St} {H : Hp} {ta : TA} {c : Int} {E : XK} (ha : EvA ta σ H [.int c]) : EvP (tCall spSize [] E ta) σ H (TupAt [.int (sizeOf c).1, .int (sizeOf c).2]) :=
  ep_call (eap_ea ha) fun vs H1 e ev Q E q => by
    subst ev
    exact ⟨c, rfl, fun v H2 e2 p => q v H2 e2 p⟩
theorem ev_refused {σ : L2.St} {H : Hp} {ta : TA} {w h : Int} {E : XK} (ha : EvA ta σ H [.int w, .int h]) (hb : okSize w h = false) : Ev (tCall spRefused [] E ta) σ H (.bl true) :=
  ev_ep (ep_call (eap_ea ha) fun vs H1 e ev Q E q => by
    subst ev
    exact ⟨w, h, rfl, hb, fun H2 e2 => q _ H2 e2 rfl⟩)
theorem ep_ldoors {σ : L2.St} {H : Hp} {ta : TA} {w h : Int} {E : XK} (ha : EvA ta σ H [.int w, .int h]) (h1 : 0 ≤ w) (h2 : w ≤ 12) (h3 : 0 ≤ h) (h4 : h ≤ 12) : EvP (tCall spLDoors [] E ta) σ H (NewDrs H (doorsL w h)) :=
  ep_call (eap_ea ha) fun vs H1 e ev Q E q => by
    subst ev
    exact ⟨w, h, rfl, h1, h2, h3, h4, fun v H2 e2 ⟨p, xs, a, b, c, d⟩ => q v H2 e2 ⟨p, xs, a, fresh_back e b, c, d⟩⟩
theorem ep_doors {σ : L2.St} {H : Hp} {ta : TE} {b : V} {w h : Int} {E : XK} (hb : Bd A.C H b w h) (ho : Ev ta σ H b) (h1 : 0 ≤ w) (h2 : w ≤ 12) (h3 : 0 ≤ h) (h4 : h ≤ 12) : EvP (tMeth A.C "doors" (spDoors A.C) [] E ta tNil) σ H (NewDrs H (doorsL w h)) := by
  obtain ⟨a, dx, dd, rfl, i1, i2⟩ := id hb
  exact ep_meth ho i1 (bf_no _ _ _ (by decide +kernel) (by decide +kernel) (by decide +kernel)) eap_nil fun vs H1 e ev Q E q => by
    subst ev
    exact ⟨_, w, h, rfl, hb.mono e, h1, h2, h3, h4, fun v H2 e2 ⟨p, xs, a, b, c, d⟩ => q v H2 e2 ⟨p, xs, a, fresh_back e b, c, d⟩⟩
theorem ev_sign {σ : L2.St} {H : Hp} {ta : TE} {tl : TA} {b : V} {w h : Int} {d : Door} {E : XK} (hb : Bd A.C H b w h) (hd : hasF w h d = true) (ho : Ev ta σ H b) (ha : EvAP tl σ H (fun vs H1 => ∃ q, vs = [q] ∧ IsDr H1 q d)) :
    Ev (tMeth A.C "sign" (spSign A.C) [] E ta tl) σ H (.str ".") := by
  obtain ⟨a, dx, dd, rfl, h1, h2⟩ := id hb
  exact ev_ep (ep_meth ho h1 (bf_no _ _ _ (by decide +kernel) (by decide +kernel) (by decide +kernel)) ha fun vs H1 e ⟨q, ev, hq⟩ Q E k => by
    subst ev
    exact ⟨_, q, w, h, d, rfl, hb.mono e, hq, hd, fun H2 e2 => k _ H2 e2 rfl⟩)
def spLaw (K : PySem.W.Frag) : Sp := fun vs H Q _ => ∃ (a : Addr) (ns : List Int), vs = [.ref a] ∧ SqL K H a (ns.map V.int) ∧ ns.length ≤ 63 ∧ ∀ H', Q (.bl true) H'
theorem sc_law : FnScope ["script", "wide", "high", "board", "size", "due", "told", "door"] ["script"] (defScope s_law) := ⟨rfl, rfl, rfl, by decide +kernel, rfl, by decide +kernel, by decide +kernel⟩
theorem ok_law {f : Addr} {fd : FuncData} (F : Fun K "law" "law" s_law f fd) (T : Txt K mg A) : FnOk P w K mg base CX0 4 f fd ["script"] (spLaw K) := by
  have SC := sc_law
  have G_Board_init : FnOk P w K mg base (L2.CX P w) 1 A.init A.d_init ["self", "wide", "high"] (spInit A.C A.NB) := ok_init T
  have G_doors : FnOk P w K mg base CX0 2 A.doors A.d_doors ["self"] (spDoors A.C) := ok_doors T
  have G_sign : FnOk P w K mg base CX0 2 A.sign A.d_sign ["self", "door"] (spSign A.C) := ok_sign T
  have G_law_cell_at : FnOk P w K mg base CX0 1 A.cell A.d_cell ["script", "k"] (spCell K) := ok_cell T
  have G_law_size : FnOk P w K mg base CX0 1 A.size A.d_size ["cell"] spSize := ok_size T
  have G_law_doors : FnOk P w K mg base CX0 1 A.ldoors A.d_ldoors ["wide", "high"] spLDoors := ok_ldoors T
  have G_law_number : FnOk P w K mg base CX0 1 A.number A.d_number ["cell"] spNumber := ok_number T
  have G_law_refused : FnOk P w K mg base CX0 3 A.refused A.d_refused ["wide", "high"] spRefused := ok_refused T
  have G_law_doors_right : FnOk P w K mg base CX0 1 A.dright A.d_dright ["found", "due"] spDRight := ok_dright T
  refine F.ok sc_law (fun vs H Q E h => ?_) (fun cdv A' outer s H vs Q E hr h => ?_)
  · obtain ⟨a, ns, rfl, _⟩ := h
    rfl
  · obtain ⟨a, ns, rfl, hS, hlen, k⟩ := h
    refine ⟨_, (pss_cons (ps_set (i := 1) SC.nd rfl (.inl rfl) (pe_call G_law_number (hr.mono (by decide)) (by rfl) T.g_law_number T.F_law_number.kp T.b_law_number .nil pass0 (pa_cons (pe_call G_law_cell_at (hr.mono (by decide)) (by rfl) T.g_law_cell_at T.F_law_cell_at.kp T.b_law_cell_at .nil pass0 (pa_cons (pv 0) (pa_cons pe_int pa_nil))) pa_nil)))
      (pss_cons (ps_set (i := 2) SC.nd rfl (.inl rfl) (pe_call G_law_number (hr.mono (by decide)) (by rfl) T.g_law_number T.F_law_number.kp T.b_law_number .nil pass0 (pa_cons (pe_call G_law_cell_at (hr.mono (by decide)) (by rfl) T.g_law_cell_at T.F_law_cell_at.kp T.b_law_cell_at .nil pass0 (pa_cons (pv 0) (pa_cons pe_int pa_nil))) pa_nil)))
      (pss_cut (ps_if (pt_cmpR op_eq (pe_op op_mod (pe_call G_law_cell_at (hr.mono (by decide)) (by rfl) T.g_law_cell_at T.F_law_cell_at.kp T.b_law_cell_at .nil pass0 (pa_cons (pv 0) (pa_cons pe_int pa_nil))) pe_int) pe_int (nomark _)) (pss_one (ps_asg (pe_call G_law_size (hr.mono (by decide)) (by rfl) T.g_law_size T.F_law_size.kp T.b_law_size .nil pass0 (pa_cons (pe_call G_law_cell_at (hr.mono (by decide)) (by rfl) T.g_law_cell_at T.F_law_cell_at.kp T.b_law_cell_at .nil pass0 (pa_cons (pv 0) (pa_cons pe_int pa_nil))) pa_nil)) (pg_tup (by rfl) (pgs_cons (pg_name (i := 1) SC.nd rfl (.inl rfl)) (pgs_cons (pg_name (i := 2) SC.nd rfl (.inl rfl)) pgs_nil))))) pss_nil)
      (pss_cons (ps_if (PW.pt (pw_or (pt_cmpR op_lt (pv 1) pe_int (nomark _)) (pw_or (pt_cmpR op_lt (pv 2) pe_int (nomark _)) (pw_or (pt_cmpR op_gt (pv 1) pe_int (nomark _)) (pw_or (pt_cmpR op_gt (pv 2) pe_int (nomark _)) (pw_or1 (pt_cmpR op_gt (pe_op op_mul (pv 1) (pv 2)) pe_int (nomark _)))))))) (pss_one (ps_ret (pe_call G_law_refused (hr.mono (by decide)) (by rfl) T.g_law_refused T.F_law_refused.kp T.b_law_refused .nil pass0 (pa_cons (pv 1) (pa_cons (pv 2) pa_nil))))) pss_nil)
      (pss_cons (ps_set (i := 3) SC.nd rfl (.inl rfl) (pe_make T.M_Board G_Board_init (hr.mono (by decide)) (by rfl) T.g_Board T.b_Board_init .nil passL (pa_cons (pv 1) (pa_cons (pv 2) pa_nil))))
      (pss_cons (ps_for PassesOwn.never rfl (pi_list (pe_lst (pa_cons (pe_fld (pv 3) rfl) (pa_cons (pe_fld (pv 3) rfl) pa_nil)))) (pg_name (i := 4) SC.nd rfl (.inl rfl))
      (pss_one (ps_if (PW.pt (pw_or (pt_not (pt_val (pe_callB call_isi (by rfl) T.z_isinstance (by decide +kernel) (pa_cons (pv 4) (pa_cons (pe_bltn (v := .ty "int") (by rfl) T.z_int (by decide +kernel) rfl) pa_nil))))) (pw_or1 (pt_val (pe_callB call_isi (by rfl) T.z_isinstance (by decide +kernel) (pa_cons (pv 4) (pa_cons (pe_bltn (v := .ty "bool") (by rfl) T.z_bool (by decide +kernel) rfl) pa_nil))))))) (pss_one (ps_ret pe_bl)) pss_nil)))
      (pss_cons (ps_if (PW.pt (pw_or (pt_cmpR op_ne (pe_fld (pv 3) rfl) (pv 1) (nomark _)) (pw_or1 (pt_cmpR op_ne (pe_fld (pv 3) rfl) (pv 2) (nomark _))))) (pss_one (ps_ret pe_bl)) pss_nil)
      (pss_cons (ps_set (i := 5) SC.nd rfl (.inl rfl) (pe_call G_law_doors (hr.mono (by decide)) (by rfl) T.g_law_doors T.F_law_doors.kp T.b_law_doors .nil pass0 (pa_cons (pv 1) (pa_cons (pv 2) pa_nil))))
      (pss_cons (ps_set (i := 6) SC.nd rfl (.inl rfl) (pe_meth0 (pv 3) T.cl T.m_doors G_doors (hr.mono (by decide)) T.b_doors .nil pass0))
      (pss_cons (ps_if (pt_not (pt_val (pe_call G_law_doors_right (hr.mono (by decide)) (by rfl) T.g_law_doors_right T.F_law_doors_right.kp T.b_law_doors_right .nil pass0 (pa_cons (pv 6) (pa_cons (pv 5) pa_nil))))) (pss_one (ps_ret pe_bl)) pss_nil)
      (pss_cons (ps_expr (pe_bm PySem.F.plainAttrs_list PySem.F.slot_list_append PySem.F.type_list_append mt_append (pv 6) (pa_cons pe_str pa_nil)))
      (pss_cons (ps_for PassesOwn.never rfl (pi_list (pv 5)) (pg_name (i := 7) SC.nd rfl (.inl rfl))
      (pss_one (ps_if (pt_cmpR op_ne (pe_meth (pv 3) T.cl T.m_sign G_sign (hr.mono (by decide)) T.b_sign .nil pass0 (pa_cons (pv 7) pa_nil)) pe_str (nomark _)) (pss_one (ps_ret pe_bl)) pss_nil)))
      (pss_one (ps_ret (pe_cmpR (op_eqD hr.units) (pe_meth0 (pv 3) T.cl T.m_doors G_doors (hr.mono (by decide)) T.b_doors .nil pass0) (pv 5) (nomark _)))))))))))))))), ?_⟩
    refine q_asg (ev_number (ea_cons (ev_cell (k := 0) hS (ea_cons (ev_var rfl) (ea_cons ev_c ea_nil))) ea_nil)) fun H1 e1 => ?_
    refine q_asg (ev_number (ea_cons (ev_cell (k := 1) (ex_l e1 hS) (ea_cons (ev_var rfl) (ea_cons ev_c ea_nil))) ea_nil)) fun H2 e2 => ?_
    have e12 := e1.trans e2
    refine ⟨fun σ' H' => ∃ w h : Int, σ' = [some (.ref a), some (.int w), some (.int h), none, none, none, none, none] ∧ Ex H H', ?_, ?_⟩
    · refine s_when (b := decide (V.int (cel ns 2 % 2) = V.int 1)) (et_test (ev_op (ev_op (ev_cell (k := 2) (ex_l e12 hS) (ea_cons (ev_var rfl) (ea_cons ev_c ea_nil))) ev_c (rv_I (by decide))) ev_c (rv_eq (by rfl)))) (fun hb H3 e3 => ?_) (fun hb H3 e3 => ⟨_, _, rfl, e12.trans e3⟩)
      refine s_asgG (ep_size (ea_cons (ev_cell (k := 0) (ex_l (e12.trans e3) hS) (ea_cons (ev_var rfl) (ea_cons ev_c ea_nil))) ea_nil)) fun v H4 e4 pv => ?_
      obtain ⟨q, rfl, hq⟩ := pv
      exact g_two (st_of hq) ⟨_, _, rfl, (e12.trans e3).trans e4⟩
    · rintro σ' H3 ⟨w, h, rfl, e3⟩
      have eok : (decide (w < 1) || (decide (h < 1) || (decide (12 < w) || (decide (12 < h) || decide (36 < w * h))))) = !okSize w h := by
        unfold okSize
        generalize w * h = z
        rw [Bool.eq_iff_iff]
        simp only [Bool.or_eq_true, decide_eq_true_eq, Bool.not_eq_true', Bool.and_eq_false_iff, decide_eq_false_iff_not]
        omega
      refine q_when (b := !okSize w h) (et_is (et_or (et_test (ev_op (ev_var rfl) ev_c rv_I0)) fun q1 => et_or (et_test (ev_op (ev_var rfl) ev_c rv_I0)) fun q2 => et_or (et_test (ev_op (ev_var rfl) ev_c rv_I0)) fun q3 => et_or (et_test (ev_op (ev_var rfl) ev_c rv_I0)) fun q4 => et_test (ev_op (ev_op (ev_var rfl) (ev_var rfl) (rv_I ?_)) ev_c rv_I0)) eok) (fun hb H4 e4 => ?_) (fun hb H4 e4 => ?_)
      · have z1 := of_decide_eq_false q1
        have z3 := of_decide_eq_false q3
        exact .inl ⟨by omega, by omega⟩
      · exact s_ret (ev_refused (ea_cons (ev_var rfl) (ea_cons (ev_var rfl) ea_nil)) (by simpa using hb)) fun H5 e5 => k H5
      have ok : okSize w h = true := by simpa using hb
      have bnd : 1 ≤ w ∧ w ≤ 12 ∧ 1 ≤ h ∧ h ≤ 12 := by
        unfold okSize at ok
        simp only [Bool.and_eq_true, decide_eq_true_eq] at ok
        omega
      obtain ⟨w1, w2, h1, h2⟩ := bnd
      refine q_asgP (ep_make (ea_cons (ev_var rfl) (ea_cons (ev_var rfl) ea_nil)) ok) fun bv H5 e5 hb5 => ?_
      obtain ⟨ba, bdx, bdd, rfl, b1, b2⟩ := id hb5
      -- for size in [board.wide, board.high]
      refine q_forNLn (xs := [.int w, .int h]) (el_lst (ea_cons (ev_fld (ev_var rfl) b1 T.cl T.n_wide (bf_wide _ _ _)) (ea_cons (ev_fld (ev_var rfl) b1 T.cl T.n_high (bf_high _ _ _)) ea_nil)) (by simp)) (fun u i σ' H' => ∃ x4, σ' = [some (.ref a), some (.int w), some (.int h), some (.ref ba), x4, none, none, none] ∧ Ex H5 H' ∧ H' u = some (.lst [.int w, .int h])) (fun u H6 hu e6 hu2 => ⟨none, rfl, e6, hu2⟩) (fun u i σ' H' _ ⟨_, _, _, hu⟩ => sq_of hu) ?_ ?_
      · rintro u j y σ' H' hj ⟨x4, rfl, e6, hu⟩
        obtain ⟨z, rfl⟩ : ∃ z, y = V.int z := by
          match j, hj with
          | 0, hj => exact ⟨_, (Option.some.inj hj).symm⟩
          | 1, hj => exact ⟨_, (Option.some.inj hj).symm⟩
          | j + 2, hj => cases hj
        refine s_when (b := false) (et_or (a := false) (b := false) (et_not (a := true) (et_B (ev_isi (ev_var rfl) (fun H1 e => ty_int _) kit_ii))) fun _ => et_B (ev_isi (ev_var rfl) (fun H1 e => ty_int _) kit_ib)) (fun z => nomatch z) (fun _ H7 e7 => ?_)
        exact ⟨_, rfl, e6.trans e7, e7 _ _ hu⟩
      rintro u σ' H6 ⟨x4, rfl, e6, hu⟩
      have b16 := e6 _ _ b1
      refine q_when (b := false) (et_or (a := false) (b := false) (et_is (et_test (ev_op (ev_fld (ev_var rfl) b16 T.cl T.n_wide (bf_wide _ _ _)) (ev_var rfl) (rv_ne (by rfl)))) (by simp)) fun _ => et_is (et_test (ev_op (ev_fld (ev_var rfl) b16 T.cl T.n_high (bf_high _ _ _)) (ev_var rfl) (rv_ne (by rfl)))) (by simp)) (fun z => nomatch z) (fun _ H7 e7 => ?_)
      -- due, told
      refine q_asgP (ep_ldoors (ea_cons (ev_var rfl) (ea_cons (ev_var rfl) ea_nil)) (by omega) w2 (by omega) h2) fun v H8 e8 pv => ?_
      obtain ⟨q, ys, rfl, _, hq, D1⟩ := pv
      have hb8 := hb5.mono ((e6.trans e7).trans e8)
      refine q_asgP (ep_doors hb8 (ev_var rfl) (by omega) w2 (by omega) h2) fun v H9 e9 pv => ?_
      obtain ⟨p, xs, rfl, np, hp, D2⟩ := pv
      have hq9 := e9 _ _ hq
      have D19 := D1.mono (ExT.of e9)
      have hok : ∀ d ∈ doorsL w h, hasF w h d = true ∧ PyData.strOk d.1 = true := doorsL_has (by omega) (by omega)
      have hok2 : ∀ d ∈ doorsL w h, PyData.strOk d.1 = true := fun d hd => (hok d hd).2
      refine q_when (b := false) (et_not (a := true) (et_epB (ep_call (eap_ea (ea_cons (ev_var rfl) (ea_cons (ev_var rfl) ea_nil))) fun vs H10 e10 ev Q E kk => ?_))) (fun z => nomatch z) (fun _ H10 e10 => ?_)
      · subst ev
        exact ⟨p, q, xs, ys, doorsL w h, rfl, e10 _ _ hp, e10 _ _ hq9, D2.mono (ExT.of e10), D19.mono (ExT.of e10), hok2, fun H11 e11 => kk _ H11 e11 rfl⟩
      have pq : q ≠ p := ne_of_none hq np
      have hlen2 : xs.length < 100000 := by
        have z1 := D2.length
        have z2 := doorsTo_len w h w2 h.toNat
        unfold doorsL at z1
        omega
      refine q_app (e10 _ _ hp) (ev_var rfl) ev_c hlen2 fun H11 e11 => ?_
      have hp11 := e11 _ _ (e10 _ _ hp)
      have hb11 : Bd A.C (upd H11 p (.lst (xs ++ [.str "x"]))) (.ref ba) w h := by
        obtain ⟨ca, cdx, cdd, eba, c1, c2⟩ := hb8
        cases eba
        have c1' := e11 _ _ (e10 _ _ (e9 _ _ c1))
        have c2' := e11 _ _ (e10 _ _ (e9 _ _ c2))
        exact ⟨ba, cdx, cdd, rfl, by rw [upd_ne (ne_of c1' hp11 (by intro z; cases z))]; exact c1', by rw [upd_ne (ne_of c2' hp11 (by intro z; cases z))]; exact c2'⟩
      have hq11 : (upd H11 p (.lst (xs ++ [.str "x"]))) q = some (.lst ys) := by
        rw [upd_ne pq]
        exact e11 _ _ (e10 _ _ hq9)
      have D11 : Drs (upd H11 p (.lst (xs ++ [.str "x"]))) ys (doorsL w h) := D19.mono ((ExT.of (e10.trans e11)).trans (ExT.upd hp11))
      refine q_forLn (a := q) (xs := ys) (ev_var rfl) (sq_of hq11) (fun i σ' H' => ∃ x4 x7, σ' = [some (.ref a), some (.int w), some (.int h), some (.ref ba), x4, some (.ref q), some (.ref p), x7] ∧ Ex (upd H11 p (.lst (xs ++ [.str "x"]))) H') (fun H12 e12 => ⟨x4, none, rfl, e12⟩) (fun i σ' H' _ ⟨_, _, _, e⟩ => sq_of (e _ _ hq11)) ?_ ?_
      · rintro i x σ' H' hi ⟨x4, x7, rfl, e12⟩
        obtain ⟨d, hd, hx⟩ := D11.get hi
        have hin : d ∈ doorsL w h := List.mem_of_getElem? hd
        refine s_when (b := false) (et_is (et_test (ev_op (ev_sign (hb11.mono e12) (hok d hin).1 (ev_var rfl) ((eap_ea (ea_cons (ev_var rfl) ea_nil)).imp fun vs H1 e ev => ⟨_, ev, (hx.mono e12).mono e⟩)) ev_c (rv_ne (by rfl)))) (by simp)) (fun z => nomatch z) (fun _ H13 e13 => ⟨_, _, rfl, e12.trans e13⟩)
      · rintro σ' H' ⟨x4, x7, rfl, e12⟩
        refine s_retP (P := fun v _ => v = .bl true) (ep_op (ep_doors (hb11.mono e12) (ev_var rfl) (by omega) w2 (by omega) h2) fun x H13 e13 px => ?_) fun v H14 e14 ev => ?_
        · obtain ⟨r, zs, rfl, _, hr2, D3⟩ := px
          refine (ep_ev (ev_var rfl)).imp fun y H14 e14 ey => ?_
          subst ey
          intro Q q'
          have e15 := (e12.trans e13).trans e14
          refine ⟨_, _, dp_doors (e14 _ _ hr2) (D3.mono (ExT.of e14)), dp_doors (e15 _ _ hq11) (D11.mono (ExT.of e15)), shaped_doors hok2, shaped_doors hok2, ?_⟩
          rw [eqv_doors hok2]
          exact q' _ _ (Ex.refl _) rfl
        · subst ev
          exact k _
end
/-! ### what the top has written, the law's own head -/
theorem all_mk {l : PySem.W.OpenLaw} {w : World} {K : PySem.W.Frag} {h : Heap} {mg : Str → Option Value} {fa : Addr} (X : K.In h) (G : h.Ns mainGlobals mg) (hfa : mg "law" = some (.ref fa)) {C NB SE ND NS NDr initA hasA doorsA signA cellA sizeA ldoorsA numberA refusedA drightA fL : Addr}
    {od1 an1 od2 an2 od3 an3 od4 an4 od5 an5 od6 an6 od7 an7 od8 an8 od9 an9 od10 an10 od11 an11 : Option Addr} {sl1 sl2 sl3 sl4 sl5 sl6 sl7 sl8 sl9 sl10 sl11 : Array (Option Value)} {oc1 kV1 dc1 pm1 cd1 ct1 oc2 kV2 dc2 pm2 cd2 ct2 oc3 kV3 dc3 pm3 cd3 ct3 oc4 kV4 dc4 pm4 cd4 ct4 oc5 kV5 dc5 pm5 cd5 ct5 oc6 kV6 dc6 pm6 cd6 ct6 oc7 kV7 dc7 pm7 cd7 ct7 oc8 kV8 dc8 pm8 cd8 ct8 oc9 kV9 dc9 pm9 cd9 ct9 oc10 kV10 dc10 pm10 cd10 ct10 oc11 kV11 dc11 pm11 cd11 ct11 : Value} {tW tM : Tok}
    (aC : PySem.W.nsIn K mainGlobals "Board" = some (some (.ref C)))
    (a1 : PySem.W.findIn K (.ref C) "__init__" = some (some (.ref initA)))
    (i1 : PySem.W.isFn K (.ref initA) = true)
    (l1 : K.lookup initA = some ⟨oc1, od1, .func (PySem.W.fnOf "__init__" "Board.__init__" (defArgs s_init) (defBody s_init) (defScope s_init) .none kV1 dc1 pm1 an1 cd1 ct1), sl1⟩)
    (c1 : PySem.W.codeIn K cd1 "Board.__init__" = true)
    (k1 : PySem.W.keepIn K (.ref initA) = true)
    (a2 : PySem.W.findIn K (.ref C) "has" = some (some (.ref hasA)))
    (i2 : PySem.W.isFn K (.ref hasA) = true)
    (l2 : K.lookup hasA = some ⟨oc2, od2, .func (PySem.W.fnOf "has" "Board.has" (defArgs s_has) (defBody s_has) (defScope s_has) .none kV2 dc2 pm2 an2 cd2 ct2), sl2⟩)
    (c2 : PySem.W.codeIn K cd2 "Board.has" = true)
    (k2 : PySem.W.keepIn K (.ref hasA) = true)
    (a3 : PySem.W.findIn K (.ref C) "doors" = some (some (.ref doorsA)))
    (i3 : PySem.W.isFn K (.ref doorsA) = true)
    (l3 : K.lookup doorsA = some ⟨oc3, od3, .func (PySem.W.fnOf "doors" "Board.doors" (defArgs s_doors) (defBody s_doors) (defScope s_doors) .none kV3 dc3 pm3 an3 cd3 ct3), sl3⟩)
    (c3 : PySem.W.codeIn K cd3 "Board.doors" = true)
    (k3 : PySem.W.keepIn K (.ref doorsA) = true)
    (a4 : PySem.W.findIn K (.ref C) "sign" = some (some (.ref signA)))
    (i4 : PySem.W.isFn K (.ref signA) = true)
    (l4 : K.lookup signA = some ⟨oc4, od4, .func (PySem.W.fnOf "sign" "Board.sign" (defArgs s_sign) (defBody s_sign) (defScope s_sign) .none kV4 dc4 pm4 an4 cd4 ct4), sl4⟩)
    (c4 : PySem.W.codeIn K cd4 "Board.sign" = true)
    (k4 : PySem.W.keepIn K (.ref signA) = true)
    (a5 : PySem.W.nsIn K mainGlobals "_law_cell_at" = some (some (.ref cellA)))
    (l5 : K.lookup cellA = some ⟨oc5, od5, .func (PySem.W.fnOf "_law_cell_at" "_law_cell_at" (defArgs s_cell) (defBody s_cell) (defScope s_cell) .none kV5 dc5 pm5 an5 cd5 ct5), sl5⟩)
    (c5 : PySem.W.codeIn K cd5 "_law_cell_at" = true)
    (k5 : PySem.W.keepIn K (.ref cellA) = true)
    (a6 : PySem.W.nsIn K mainGlobals "_law_size" = some (some (.ref sizeA)))
    (l6 : K.lookup sizeA = some ⟨oc6, od6, .func (PySem.W.fnOf "_law_size" "_law_size" (defArgs s_size) (defBody s_size) (defScope s_size) .none kV6 dc6 pm6 an6 cd6 ct6), sl6⟩)
    (c6 : PySem.W.codeIn K cd6 "_law_size" = true)
    (k6 : PySem.W.keepIn K (.ref sizeA) = true)
    (a7 : PySem.W.nsIn K mainGlobals "_law_doors" = some (some (.ref ldoorsA)))
    (l7 : K.lookup ldoorsA = some ⟨oc7, od7, .func (PySem.W.fnOf "_law_doors" "_law_doors" (defArgs s_ldoors) (defBody s_ldoors) (defScope s_ldoors) .none kV7 dc7 pm7 an7 cd7 ct7), sl7⟩)
    (c7 : PySem.W.codeIn K cd7 "_law_doors" = true)
    (k7 : PySem.W.keepIn K (.ref ldoorsA) = true)
    (a8 : PySem.W.nsIn K mainGlobals "_law_number" = some (some (.ref numberA)))
    (l8 : K.lookup numberA = some ⟨oc8, od8, .func (PySem.W.fnOf "_law_number" "_law_number" (defArgs s_number) (defBody s_number) (defScope s_number) .none kV8 dc8 pm8 an8 cd8 ct8), sl8⟩)
    (c8 : PySem.W.codeIn K cd8 "_law_number" = true)
    (k8 : PySem.W.keepIn K (.ref numberA) = true)
    (a9 : PySem.W.nsIn K mainGlobals "_law_refused" = some (some (.ref refusedA)))
    (l9 : K.lookup refusedA = some ⟨oc9, od9, .func (PySem.W.fnOf "_law_refused" "_law_refused" (defArgs s_refused) (defBody s_refused) (defScope s_refused) .none kV9 dc9 pm9 an9 cd9 ct9), sl9⟩)
    (c9 : PySem.W.codeIn K cd9 "_law_refused" = true)
    (k9 : PySem.W.keepIn K (.ref refusedA) = true)
    (a10 : PySem.W.nsIn K mainGlobals "_law_doors_right" = some (some (.ref drightA)))
    (l10 : K.lookup drightA = some ⟨oc10, od10, .func (PySem.W.fnOf "_law_doors_right" "_law_doors_right" (defArgs s_dright) (defBody s_dright) (defScope s_dright) .none kV10 dc10 pm10 an10 cd10 ct10), sl10⟩)
    (c10 : PySem.W.codeIn K cd10 "_law_doors_right" = true)
    (k10 : PySem.W.keepIn K (.ref drightA) = true)
    (a11 : PySem.W.nsIn K mainGlobals "law" = some (some (.ref fL)))
    (l11 : K.lookup fL = some ⟨oc11, od11, .func (PySem.W.fnOf "law" "law" (defArgs s_law) (defBody s_law) (defScope s_law) .none kV11 dc11 pm11 an11 cd11 ct11), sl11⟩)
    (c11 : PySem.W.codeIn K cd11 "law" = true)
    (k11 : PySem.W.keepIn K (.ref fL) = true)
    (pg : PySem.W.plainGet K C Str.empty = true)
    (hd : PySem.W.hasDictIn K C = true)
    (po : PySem.W.plainOver K C = true)
    (sa : PySem.W.findIn K (.ref C) "__setattr__" = some (some (.builtin "object.__setattr__")))
    (mk : PySem.W.makesIn K C = true)
    (kc : PySem.W.keepIn K (.ref C) = true)
    (n_wide : PySem.W.findIn K (.ref C) "wide" = some none)
    (n_high : PySem.W.findIn K (.ref C) "high" = some none)
    (n_mirrors : PySem.W.findIn K (.ref C) "mirrors" = some none)
    (z_range : PySem.W.nsIn K mainGlobals "range" = some none)
    (z_len : PySem.W.nsIn K mainGlobals "len" = some none)
    (z_isinstance : PySem.W.nsIn K mainGlobals "isinstance" = some none)
    (z_int : PySem.W.nsIn K mainGlobals "int" = some none)
    (z_bool : PySem.W.nsIn K mainGlobals "bool" = some none)
    (z_list : PySem.W.nsIn K mainGlobals "list" = some none)
    (z_tuple : PySem.W.nsIn K mainGlobals "tuple" = some none)
    (z_str : PySem.W.nsIn K mainGlobals "str" = some none)
    (z_ValueError : PySem.W.nsIn K mainGlobals "ValueError" = some none)
    (g_WIDEST : PySem.W.nsIn K mainGlobals "WIDEST" = some (some (.int 12 tW)))
    (g_MOST : PySem.W.nsIn K mainGlobals "MOST" = some (some (.int 36 tM)))
    (g_NoBoard : PySem.W.nsIn K mainGlobals "NoBoard" = some (some (.ref NB)))
    (g_SandError : PySem.W.nsIn K mainGlobals "SandError" = some (some (.ref SE)))
    (g_NoDoor : PySem.W.nsIn K mainGlobals "NoDoor" = some (some (.ref ND)))
    (g_NoSign : PySem.W.nsIn K mainGlobals "NoSign" = some (some (.ref NS)))
    (g_NoDrawing : PySem.W.nsIn K mainGlobals "NoDrawing" = some (some (.ref NDr)))
    (x_NB : PySem.W.excIn K NB [.type "ValueError", .type "Exception", .type "BaseException", .type "object"] "ValueError.__new__" = true)
    (k_NB : PySem.W.keepIn K (.ref NB) = true)
    (r_NB : PySem.W.subIn K (.ref NB) (.type "BaseException") = some true)
    (t_NB : PySem.W.typeIn K (.ref NB) = some (.type "type"))
    (s_NB : PySem.W.subIn K (.ref NB) (.ref NB) = some true)
    (e1 : PySem.W.findIn K (.ref NB) "__getattribute__" = some (some (.builtin "BaseException.__getattribute__")))
    (e2 : PySem.W.findIn K (.ref NB) "__getattr__" = some none)
    (e3 : PySem.W.hasDictIn K NB = true)
    (e4 : PySem.W.findIn K (.ref NB) "__class__" = some (some (.builtin "object.__class__")))
    (e5 : PySem.W.specialIn K (.builtin "object.__class__") "__get__" = some (some (.builtin "getset_descriptor.__get__")))
    (e6 : PySem.W.takesIn K (.builtin "object.__class__") = some true)
    (e7 : PySem.W.mroIn K NB (.type "object") = some true)
    (i_SE : PySem.W.kitOne K (.ref NB) (.ref SE) = some true)
    (i_VE : PySem.W.kitOne K (.ref NB) (.type "ValueError") = some true)
    (i_ND : PySem.W.kitOne K (.ref NB) (.ref ND) = some false)
    (i_NS : PySem.W.kitOne K (.ref NB) (.ref NS) = some false)
    (i_NDr : PySem.W.kitOne K (.ref NB) (.ref NDr) = some false)
    : ∃ fd : FuncData, (∀ (s : Shared) (v : Value), BindsTo s fd ⟨[v], []⟩ [("script", v)]) ∧ ∀ base : Heap, K.In base → base.Ns mainGlobals mg → FnOk l.prog w K mg base CX0 4 fa fd ["script"] (spLaw K) := by
  have e := hfa.symm.trans (PySem.W.mg_of X G a11)
  cases e
  have F1 := fun_mk (st := s_init) l1 c1 k1
  have b1 := F1.binds (ps := ["self", "wide", "high"]) fun _ _ _ _ _ _ us hl => match us, hl with | [_, _, _], _ => rfl
  have F2 := fun_mk (st := s_has) l2 c2 k2
  have b2 := F2.binds (ps := ["self", "door"]) fun _ _ _ _ _ _ us hl => match us, hl with | [_, _], _ => rfl
  have F3 := fun_mk (st := s_doors) l3 c3 k3
  have b3 := F3.binds (ps := ["self"]) fun _ _ _ _ _ _ us hl => match us, hl with | [_], _ => rfl
  have F4 := fun_mk (st := s_sign) l4 c4 k4
  have b4 := F4.binds (ps := ["self", "door"]) fun _ _ _ _ _ _ us hl => match us, hl with | [_, _], _ => rfl
  have F5 := fun_mk (st := s_cell) l5 c5 k5
  have b5 := F5.binds (ps := ["script", "k"]) fun _ _ _ _ _ _ us hl => match us, hl with | [_, _], _ => rfl
  have F6 := fun_mk (st := s_size) l6 c6 k6
  have b6 := F6.binds (ps := ["cell"]) fun _ _ _ _ _ _ us hl => match us, hl with | [_], _ => rfl
  have F7 := fun_mk (st := s_ldoors) l7 c7 k7
  have b7 := F7.binds (ps := ["wide", "high"]) fun _ _ _ _ _ _ us hl => match us, hl with | [_, _], _ => rfl
  have F8 := fun_mk (st := s_number) l8 c8 k8
  have b8 := F8.binds (ps := ["cell"]) fun _ _ _ _ _ _ us hl => match us, hl with | [_], _ => rfl
  have F9 := fun_mk (st := s_refused) l9 c9 k9
  have b9 := F9.binds (ps := ["wide", "high"]) fun _ _ _ _ _ _ us hl => match us, hl with | [_, _], _ => rfl
  have F10 := fun_mk (st := s_dright) l10 c10 k10
  have b10 := F10.binds (ps := ["found", "due"]) fun _ _ _ _ _ _ us hl => match us, hl with | [_, _], _ => rfl
  have F11 := fun_mk (st := s_law) l11 c11 k11
  have T : Txt K mg { C := C, NB := NB, SE := SE, ND := ND, NS := NS, NDr := NDr, init := initA, d_init := _, has := hasA, d_has := _, doors := doorsA, d_doors := _, sign := signA, d_sign := _, cell := cellA, d_cell := _, size := sizeA, d_size := _, ldoors := ldoorsA, d_ldoors := _, number := numberA, d_number := _, refused := refusedA, d_refused := _, dright := drightA, d_dright := _ } := {
    cl := ⟨pg, hd, po, sa⟩
    n_wide := n_wide
    n_high := n_high
    n_mirrors := n_mirrors
    z_range := PySem.W.mg_none_of X G z_range
    z_len := PySem.W.mg_none_of X G z_len
    z_isinstance := PySem.W.mg_none_of X G z_isinstance
    z_int := PySem.W.mg_none_of X G z_int
    z_bool := PySem.W.mg_none_of X G z_bool
    z_list := PySem.W.mg_none_of X G z_list
    z_tuple := PySem.W.mg_none_of X G z_tuple
    z_str := PySem.W.mg_none_of X G z_str
    z_ValueError := PySem.W.mg_none_of X G z_ValueError
    g_WIDEST := ⟨_, PySem.W.mg_of X G g_WIDEST⟩
    g_MOST := ⟨_, PySem.W.mg_of X G g_MOST⟩
    g_NoBoard := PySem.W.mg_of X G g_NoBoard
    g_SandError := PySem.W.mg_of X G g_SandError
    g_NoDoor := PySem.W.mg_of X G g_NoDoor
    g_NoSign := PySem.W.mg_of X G g_NoSign
    g_NoDrawing := PySem.W.mg_of X G g_NoDrawing
    g_Board := PySem.W.mg_of X G aC
    x_NB := x_NB
    k_NB := k_NB
    r_NB := r_NB
    t_NB := t_NB
    e_NB := PySem.W.exm_ref r_NB e3 t_NB s_NB
    c_NB := ⟨e1, e2, r_NB, e3, e4, e5, e6, e7⟩
    i_SE := i_SE
    i_VE := i_VE
    i_ND := i_ND
    i_NS := i_NS
    i_NDr := i_NDr
    M_Board := ⟨mk, a1, i1, kc⟩
    F_init := F1
    b_Board_init := b1
    F_has := F2
    b_has := b2
    m_has := ⟨a2, i2, k2⟩
    F_doors := F3
    b_doors := b3
    m_doors := ⟨a3, i3, k3⟩
    F_sign := F4
    b_sign := b4
    m_sign := ⟨a4, i4, k4⟩
    F_law_cell_at := F5
    b_law_cell_at := b5
    g_law_cell_at := PySem.W.mg_of X G a5
    F_law_size := F6
    b_law_size := b6
    g_law_size := PySem.W.mg_of X G a6
    F_law_doors := F7
    b_law_doors := b7
    g_law_doors := PySem.W.mg_of X G a7
    F_law_number := F8
    b_law_number := b8
    g_law_number := PySem.W.mg_of X G a8
    F_law_refused := F9
    b_law_refused := b9
    g_law_refused := PySem.W.mg_of X G a9
    F_law_doors_right := F10
    b_law_doors_right := b10
    g_law_doors_right := PySem.W.mg_of X G a10
  }
  exact ⟨PySem.W.fnOf "law" "law" (defArgs s_law) (defBody s_law) (defScope s_law) .none kV11 dc11 pm11 an11 cd11 ct11, fun s v => .of_eq rfl, fun base _ _ => ok_law F11 T⟩
theorem walk {l : PySem.W.OpenLaw} {q : Program} {loose : List Str} {XP : (Str → Option Value) → Heap → Prop} {YP : World → Heap → Prop} {d : DefRec} {K : Params → PySem.W.Frag} (hn : l.most = some 63) (hdf : d.params.defaults = [])
    (hY : ∀ (w : World) (h : Heap), YP w h → (K w.params).In h)
    (F : ∀ (w : World) (mg : Str → Option Value) (fa : Addr) (h : Heap), (K w.params).In h → h.Ns mainGlobals mg → mg d.name = some (.ref fa) →
      ∃ fd : FuncData, (∀ (s : Shared) (u : Value), BindsTo s fd ⟨[u], []⟩ [("script", u)]) ∧ ∀ base : Heap, (K w.params).In base → base.Ns mainGlobals mg → FnOk l.prog w (K w.params) mg base CX0 4 fa fd ["script"] (spLaw (K w.params))) :
    PySem.W.WalkO q loose XP YP l.row.toRowW d [] (fun f vs => PySem.call f vs) :=
  L2.walk_of (n := 63) (k := 4) (x := "script") (CX := fun _ => CX0) (sp := fun w => spLaw (K w.params)) hn (by decide) hdf ⟨rfl, by decide, by decide⟩ hY F (fun _ _ a ns hl _ hS => ⟨a, ns, rfl, hS, hl, fun _ => rfl⟩) fun _ _ _ _ _ z => z
end SD
open PySem PySem.W PyProof.Rows
set_option maxRecDepth 100000 in
set_option maxHeartbeats 0 in
theorem PySem.Challenge.cw_sandline_k01_new_board_holds : PySem.Challenge.rw_sandline_k01_new_board.Holds := by
  w_on; o_law; k_head; (case hw => w_witness2)
  k_fill
  refine SD.walk (l := PySem.Challenge.rw_sandline_k01_new_board) rfl rfl (fun w h Y => PySem.W.kIn_of Y) ?F
  case F =>
    intro w mg fa h KX G hmg
    refine' SD.all_mk KX G hmg ?aC ?a1 ?i1 ?l1 ?c1 ?k1 ?a2 ?i2 ?l2 ?c2 ?k2 ?a3 ?i3 ?l3 ?c3 ?k3 ?a4 ?i4 ?l4 ?c4 ?k4 ?a5 ?l5 ?c5 ?k5 ?a6 ?l6 ?c6 ?k6 ?a7 ?l7 ?c7 ?k7 ?a8 ?l8 ?c8 ?k8 ?a9 ?l9 ?c9 ?k9 ?a10 ?l10 ?c10 ?k10 ?a11 ?l11 ?c11 ?k11 ?pg ?hd ?po ?sa ?mk ?kc ?n_wide ?n_high ?n_mirrors ?z_range ?z_len ?z_isinstance ?z_int ?z_bool ?z_list ?z_tuple ?z_str ?z_ValueError ?g_WIDEST ?g_MOST ?g_NoBoard ?g_SandError ?g_NoDoor ?g_NoSign ?g_NoDrawing ?x_NB ?k_NB ?r_NB ?t_NB ?s_NB ?e1 ?e2 ?e3 ?e4 ?e5 ?e6 ?e7 ?i_SE ?i_VE ?i_ND ?i_NS ?i_NDr
    (case aC => k_is)
    (case a1 => k_is)
    (case i1 => k_is)
    (case l1 => k_is)
    (case c1 => k_is)
    (case k1 => k_is)
    (case a2 => k_is)
    (case i2 => k_is)
    (case l2 => k_is)
    (case c2 => k_is)
    (case k2 => k_is)
    (case a3 => k_is)
    (case i3 => k_is)
    (case l3 => k_is)
    (case c3 => k_is)
    (case k3 => k_is)
    (case a4 => k_is)
    (case i4 => k_is)
    (case l4 => k_is)
    (case c4 => k_is)
    (case k4 => k_is)
    (case a5 => k_is)
    (case l5 => k_is)
    (case c5 => k_is)
    (case k5 => k_is)
    (case a6 => k_is)
    (case l6 => k_is)
    (case c6 => k_is)
    (case k6 => k_is)
    (case a7 => k_is)
    (case l7 => k_is)
    (case c7 => k_is)
    (case k7 => k_is)
    (case a8 => k_is)
    (case l8 => k_is)
    (case c8 => k_is)
    (case k8 => k_is)
    (case a9 => k_is)
    (case l9 => k_is)
    (case c9 => k_is)
    (case k9 => k_is)
    (case a10 => k_is)
    (case l10 => k_is)
    (case c10 => k_is)
    (case k10 => k_is)
    (case a11 => k_is)
    (case l11 => k_is)
    (case c11 => k_is)
    (case k11 => k_is)
    (case pg => k_is)
    (case hd => k_is)
    (case po => k_is)
    (case sa => k_is)
    (case mk => k_is)
    (case kc => k_is)
    (case n_wide => k_is)
    (case n_high => k_is)
    (case n_mirrors => k_is)
    (case z_range => k_is)
    (case z_len => k_is)
    (case z_isinstance => k_is)
    (case z_int => k_is)
    (case z_bool => k_is)
    (case z_list => k_is)
    (case z_tuple => k_is)
    (case z_str => k_is)
    (case z_ValueError => k_is)
    (case g_WIDEST => k_is)
    (case g_MOST => k_is)
    (case g_NoBoard => k_is)
    (case g_SandError => k_is)
    (case g_NoDoor => k_is)
    (case g_NoSign => k_is)
    (case g_NoDrawing => k_is)
    (case x_NB => k_exc)
    (case k_NB => k_is)
    (case r_NB => k_is)
    (case t_NB => k_is)
    (case s_NB => k_is)
    (case e1 => k_is)
    (case e2 => k_is)
    (case e3 => k_is)
    (case e4 => k_is)
    (case e5 => k_is)
    (case e6 => k_is)
    (case e7 => k_is)
    (case i_SE => kit_is)
    (case i_VE => kit_is)
    (case i_ND => kit_is)
    (case i_NS => kit_is)
    (case i_NDr => kit_is)
