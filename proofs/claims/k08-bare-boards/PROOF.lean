import PyProof.Rows.All
import Wide.All
import OpenK.AllK
import Wide.FinOn
import HandS.ForExc
import HandS.Dict
import HandS.IsInst
import HandS.ExcIs
import HandS.Evl
import KE.RegKIsAll
import PySem.Challenge.RW_sandline_k08_whole_bare_boards
set_option Elab.async false
set_option linter.all false
set_option maxRecDepth 100000
set_option maxHeartbeats 4000000
/-! SDBase: what a reading evaluates to, told by a property; further words over the hand layer. -/
namespace SD
open PySem PySem.Spec PyProof.Rows L2 Evl

/-! ### an expression's value by a property -/
def EvP (te : TE) (σ : L2.St) (H : Hp) (P : V → Hp → Prop) : Prop := ∀ H1, Ex H H1 → ∀ Q : VK, (∀ v H2, Ex H1 H2 → P v H2 → Q v H2) → te σ H1 Q
def EvAP (ta : TA) (σ : L2.St) (H : Hp) (P : List V → Hp → Prop) : Prop := ∀ H1, Ex H H1 → ∀ Q : List V → Hp → Prop, (∀ v H2, Ex H1 H2 → P v H2 → Q v H2) → ta σ H1 Q
section
variable {K : PySem.W.Frag} {σ : L2.St} {H H' : Hp} {ta tb tc te : TE} {t u : TT} {x y z v : V} {P P' Pa Pb : V → Hp → Prop}
theorem EvP.mono (e : Ex H H') (h : EvP te σ H P) : EvP te σ H' P := fun H1 a Q q => h H1 (e.trans a) Q q
theorem EvP.imp (h : EvP te σ H P) (hp : ∀ v H1, Ex H H1 → P v H1 → P' v H1) : EvP te σ H P' := fun H1 e Q q => h H1 e Q fun v H2 e2 p => q v H2 e2 (hp v H2 (e.trans e2) p)
theorem ep_ev (h : Ev te σ H v) : EvP te σ H (fun w _ => w = v) := fun H1 e Q q => h H1 e Q fun H2 e2 => q v H2 e2 rfl
theorem ev_ep (h : EvP te σ H (fun w _ => w = v)) : Ev te σ H v := fun H1 e Q q => h H1 e Q fun w H2 e2 ew => by
  subst ew
  exact q H2 e2
/-- a new tuple, its items told -/
def NewT (H : Hp) (xs : List V) : V → Hp → Prop := fun v H2 => ∃ p, v = .ref p ∧ H p = none ∧ H2 p = some (.tup xs)
def NewL (H : Hp) (xs : List V) : V → Hp → Prop := fun v H2 => ∃ p, v = .ref p ∧ H p = none ∧ H2 p = some (.lst xs)
theorem ep_U {xs : List V} (h : EvU te σ H xs) : EvP te σ H (NewT H xs) := fun H1 e Q q => h H1 e Q fun p H2 hp e2 h2 => q _ _ e2 ⟨p, rfl, fresh_back e hp, h2⟩
theorem ep_L {xs : List V} (h : EvL te σ H xs) : EvP te σ H (NewL H xs) := fun H1 e Q q => h H1 e Q fun p H2 hp e2 h2 => q _ _ e2 ⟨p, rfl, fresh_back e hp, h2⟩
theorem eap_nil : EvAP tNil σ H (fun vs _ => vs = []) := fun H1 _ _ q => q [] H1 (Ex.refl H1) rfl
theorem eap_ea {tl : TA} {vs : List V} (h : EvA tl σ H vs) : EvAP tl σ H (fun ws _ => ws = vs) := fun H1 e Q q => h H1 e Q fun H2 e2 => q vs H2 e2 rfl
theorem eap_cons {tr : TA} {R : V → List V → Hp → Prop} (h : EvP te σ H P) (hr : ∀ v H1, Ex H H1 → P v H1 → EvAP tr σ H1 (R v)) : EvAP (tCons te tr) σ H (fun vs H2 => ∃ v r, vs = v :: r ∧ R v r H2) :=
  fun H1 e Q q => h H1 e _ fun v H2 e2 p => hr v H2 (e.trans e2) p H2 (Ex.refl H2) _ fun r H3 e3 pr => q (v :: r) H3 (e2.trans e3) ⟨v, r, rfl, pr⟩
theorem EvAP.imp {tl : TA} {R R' : List V → Hp → Prop} (h : EvAP tl σ H R) (hp : ∀ v H1, Ex H H1 → R v H1 → R' v H1) : EvAP tl σ H R' := fun H1 e Q q => h H1 e Q fun v H2 e2 p => q v H2 e2 (hp v H2 (e.trans e2) p)
/-- one argument, told by a property -/
theorem eap_one (h : EvP te σ H P) : EvAP (tCons te tNil) σ H (fun vs H2 => ∃ v, vs = [v] ∧ P v H2) := fun H1 e Q q => h H1 e _ fun v H2 e2 p => q [v] H2 e2 ⟨v, rfl, p⟩
/-- a promise told forwards -/
def SpP (sp : Sp) (vs : List V) (H : Hp) (P : V → Hp → Prop) : Prop := ∀ (Q : VK) (E : XK), (∀ v H2, Ex H H2 → P v H2 → Q v H2) → sp vs H Q E
theorem ep_call {sp : Sp} {dvs : List V} {E : XK} {tl : TA} {A : List V → Hp → Prop} (h : EvAP tl σ H A) (hs : ∀ vs H1, Ex H H1 → A vs H1 → SpP sp (vs ++ dvs) H1 P) : EvP (tCall sp dvs E tl) σ H P := fun H1 e Q q =>
  h H1 e _ fun vs H2 e2 a => hs vs H2 (e.trans e2) a Q E fun v H3 e3 p => q v H3 (e2.trans e3) p
theorem ep_meth {C a dx : Addr} {m : Str} {fs : List (Str × V)} {sp : Sp} {dvs : List V} {E : XK} {tl : TA} {A : List V → Hp → Prop} (ho : Ev ta σ H (.ref a)) (hi : H a = some (.ins C dx fs)) (hn : fs.lookup m = none) (h : EvAP tl σ H A)
    (hs : ∀ vs H1, Ex H H1 → A vs H1 → SpP sp (.ref a :: (vs ++ dvs)) H1 P) : EvP (tMeth C m sp dvs E ta tl) σ H P := fun H1 e Q q =>
  ho H1 e _ fun H2 e2 => ⟨a, dx, fs, rfl, (e.trans e2) a _ hi, hn, h H2 (e.trans e2) _ fun vs H3 e3 p => hs vs H3 ((e.trans e2).trans e3) p Q E fun v H4 e4 pv => q v H4 ((e2.trans e3).trans e4) pv⟩
theorem ev_fld {a C dx : Addr} {fs : List (Str × V)} {f : Str} (ha : Ev ta σ H (.ref a)) (ho : H a = some (.ins C dx fs)) (c : Cls K C) (n : NoAttr K C f) (l : fs.lookup f = some v) : Ev (tFld K ta f) σ H v := fun H1 e Q q =>
  ha H1 e _ fun H2 e2 => ⟨a, C, dx, fs, v, rfl, (e.trans e2) a _ ho, c, n, l, q H2 e2⟩
theorem ev_chain {r r' : R2} {b c : Bool} (ha : Ev ta σ H x) (hb : Ev tb σ H y) (hr : RV r x y H (.bl b)) (hc : b = true → Ev tc σ H z) (hr' : b = true → RV r' y z H (.bl c)) : Ev (tChain r r' ta tb tc) σ H (.bl (b && c)) := fun H1 e Q q =>
  ha H1 e _ fun H2 e2 => hb H2 (e.trans e2) _ fun H3 e3 => hr H3 ((e.trans e2).trans e3) _ fun H4 e4 => ⟨b, rfl, by
    cases b with
    | true =>
      show tc σ H4 _
      exact hc rfl H4 (((e.trans e2).trans e3).trans e4) _ fun H5 e5 => hr' rfl H5 ((((e.trans e2).trans e3).trans e4).trans e5) Q fun H6 e6 => q H6 ((((e2.trans e3).trans e4).trans e5).trans e6)
    | false =>
      show Q (.bl false) H4
      exact q H4 ((e2.trans e3).trans e4)⟩
/-! ### an operation one of whose sides is told by a property -/
theorem ep_op {r : R2} (ha : EvP ta σ H Pa) (hb : ∀ x H1, Ex H H1 → Pa x H1 → EvP tb σ H1 (fun y H2 => ∀ Q : VK, (∀ v H3, Ex H2 H3 → P v H3 → Q v H3) → r x y H2 Q)) : EvP (tOp r ta tb) σ H P := fun H1 e Q q =>
  ha H1 e _ fun x H2 e2 px => hb x H2 (e.trans e2) px H2 (Ex.refl H2) _ fun y H3 e3 py => py Q fun v H4 e4 pv => q v H4 ((e2.trans e3).trans e4) pv
theorem ep_cb {r : List V → Hp → VK → Prop} {tl : TA} {A : List V → Hp → Prop} (h : EvAP tl σ H A) (hr : ∀ vs H1, Ex H H1 → A vs H1 → ∀ Q : VK, (∀ v H2, Ex H1 H2 → P v H2 → Q v H2) → r vs H1 Q) : EvP (tCB r tl) σ H P := fun H1 e Q q =>
  h H1 e _ fun vs H2 e2 a => hr vs H2 (e.trans e2) a Q fun v H3 e3 p => q v H3 (e2.trans e3) p
theorem ep_if {b : Bool} (h : EvT t σ H b) (h1 : b = true → EvP ta σ H P) (h2 : b = false → EvP tb σ H P) : EvP (tIf t ta tb) σ H P := fun H1 e Q q => h H1 e _ fun H2 e2 => by
  cases b with
  | true =>
    show ta σ H2 Q
    exact h1 rfl H2 (e.trans e2) Q fun v H3 e3 => q v H3 (e2.trans e3)
  | false =>
    show tb σ H2 Q
    exact h2 rfl H2 (e.trans e2) Q fun v H3 e3 => q v H3 (e2.trans e3)
theorem et_ep {b : Bool} (h : EvP te σ H (fun w _ => w = .bl b)) : EvT (tTest te) σ H b := et_test (ev_ep h)
theorem et_epB {b : Bool} (h : EvP te σ H (fun w _ => w = .bl b)) : EvT (tB te) σ H b := et_B (ev_ep h)

/-! ### statements -/
variable {D : Ends} {tu tw tz : TS} {g : TG}
theorem s_asgP {i : Nat} (h : EvP te σ H P) (k : ∀ v H1, Ex H H1 → P v H1 → D.nx (σ.set i (some v)) H1) : tAsg te (gName i) D σ H := h H (Ex.refl H) _ fun v H1 e p => k v H1 e p
theorem q_asgP {i : Nat} (h : EvP te σ H P) (k : ∀ v H1, Ex H H1 → P v H1 → tz D (σ.set i (some v)) H1) : tSeq (tAsg te (gName i)) tz D σ H := s_asgP (D := { D with nx := tz D }) h k
theorem s_asgG (h : EvP te σ H P) (k : ∀ v H1, Ex H H1 → P v H1 → g v σ H1 D.nx) : tAsg te g D σ H := h H (Ex.refl H) _ fun v H1 e p => k v H1 e p
theorem q_asgG (h : EvP te σ H P) (k : ∀ v H1, Ex H H1 → P v H1 → g v σ H1 (tz D)) : tSeq (tAsg te g) tz D σ H := s_asgG (D := { D with nx := tz D }) h k
theorem s_retP (h : EvP te σ H P) (k : ∀ v H1, Ex H H1 → P v H1 → D.rt v H1) : tRet te D σ H := h H (Ex.refl H) _ k
theorem s_dropP (h : EvP te σ H P) (k : ∀ v H1, Ex H H1 → P v H1 → D.nx σ H1) : tDrop te D σ H := h H (Ex.refl H) _ k
theorem q_dropP (h : EvP te σ H P) (k : ∀ v H1, Ex H H1 → P v H1 → tz D σ H1) : tSeq (tDrop te) tz D σ H := h H (Ex.refl H) _ k
theorem s_appP {l : Addr} {xs : List V} (hl : H l = some (.lst xs)) (ha : Ev ta σ H (.ref l)) (h : EvP te σ H P) (hz : xs.length < 100000) (k : ∀ v H1, Ex H H1 → P v H1 → D.nx σ (upd H1 l (.lst (xs ++ [v])))) :
    tDrop (tBM K "list" rAppend ta (tCons te tNil)) D σ H := ha H (Ex.refl H) _ fun H1 e1 =>
  ⟨Or.inl ⟨rfl, xs, sq_of (e1 l _ hl)⟩, h H1 e1 _ fun v H2 e2 p => ⟨l, xs, v, rfl, rfl, e2 l _ (e1 l _ hl), sz_lt hz, k v H2 (e1.trans e2) p⟩⟩
theorem q_appP {l : Addr} {xs : List V} (hl : H l = some (.lst xs)) (ha : Ev ta σ H (.ref l)) (h : EvP te σ H P) (hz : xs.length < 100000) (k : ∀ v H1, Ex H H1 → P v H1 → tz D σ (upd H1 l (.lst (xs ++ [v])))) :
    tSeq (tDrop (tBM K "list" rAppend ta (tCons te tNil))) tz D σ H := s_appP (D := { D with nx := tz D }) hl ha h hz k
/-- xs[i], t[i] as a value by a property -/
theorem ep_ixL {p : Addr} {xs : List V} {i : Int} (ha : Ev ta σ H (.ref p)) (hb : Ev tb σ H (.int i)) (h : SqL K H p xs) (hv : atI xs i = some v) : Ev (tOp (rIxL K) ta tb) σ H v := ev_op ha hb (rv_ixL h hv)
theorem ep_ixT {p : Addr} {xs : List V} {i : Int} (ha : Ev ta σ H (.ref p)) (hb : Ev tb σ H (.int i)) (h : SqT K H p xs) (hv : atI xs i = some v) : Ev (tOp (rIxT K) ta tb) σ H v := ev_op ha hb (rv_ixT h hv)
/-- a, b = a tuple of two; a, b, c = a tuple of three, to names -/
theorem g_two {a : Addr} {x y : V} {i j : Nat} {Q : L2.St → Hp → Prop} (h : SqT K H a [x, y]) (k : Q ((σ.set i (some x)).set j (some y)) H) : gTup K 2 (gCons (gName i) (gCons (gName j) gNil)) (.ref a) σ H Q :=
  ⟨a, [x, y], rfl, h, rfl, x, [y], rfl, y, [], rfl, rfl, k⟩
theorem g_three {a : Addr} {x y z : V} {i j l : Nat} {Q : L2.St → Hp → Prop} (h : SqT K H a [x, y, z]) (k : Q (((σ.set i (some x)).set j (some y)).set l (some z)) H) : gTup K 3 (gCons (gName i) (gCons (gName j) (gCons (gName l) gNil))) (.ref a) σ H Q :=
  ⟨a, [x, y, z], rfl, h, rfl, x, [y, z], rfl, y, [z], rfl, z, [], rfl, rfl, k⟩
end

/-! ### more -/
section
variable {K : PySem.W.Frag} {σ : L2.St} {H H' : Hp} {ta tb tc te td ty tx : TE} {t u : TT} {x y z v : V} {P P' Pa Pb : V → Hp → Prop} {D : Ends} {tu tw tz : TS} {g : TG}
/-- a tuple of these items stands at v -/
def TupAt (xs : List V) (v : V) (H : Hp) : Prop := ∃ a, v = .ref a ∧ H a = some (.tup xs)
theorem TupAt.mono {xs : List V} (e : Ex H H') (h : TupAt xs v H) : TupAt xs v H' :=
  let ⟨a, h1, h2⟩ := h
  ⟨a, h1, e _ _ h2⟩
theorem ep_tup {tl : TA} {vs : List V} (h : EvA tl σ H vs) (hl : vs.length ≤ 100000 := by first | decide | simp) : EvP (tTup tl) σ H (TupAt vs) := (ep_U (eu_tup h hl)).imp fun _ _ _ ⟨p, h1, _, h2⟩ => ⟨p, h1, h2⟩
theorem eap_consM {tr : TA} {R : List V → Hp → Prop} (h : EvP te σ H P) (hm : ∀ v H1 H2, Ex H1 H2 → P v H1 → P v H2) (hr : EvAP tr σ H R) : EvAP (tCons te tr) σ H (fun vs H2 => ∃ v r, vs = v :: r ∧ P v H2 ∧ R r H2) :=
  fun H1 e Q q => h H1 e _ fun v H2 e2 p => hr H2 (e.trans e2) _ fun r H3 e3 pr => q (v :: r) H3 (e2.trans e3) ⟨v, r, rfl, hm v H2 H3 e3 p, pr⟩
/-- a new list of items told by a property -/
theorem ep_lstP {tl : TA} {R : List V → Hp → Prop} (h : EvAP tl σ H R) (hl : ∀ vs H1, R vs H1 → vs.length ≤ 100000) (hm : ∀ vs H1 H2, Ex H1 H2 → R vs H1 → R vs H2) :
    EvP (tLst tl) σ H (fun v H2 => ∃ p vs, v = .ref p ∧ H p = none ∧ H2 p = some (.lst vs) ∧ R vs H2) := fun H1 e Q q =>
  h H1 e _ fun vs H2 e2 r => ⟨sz_of (hl vs H2 r), fun p hp => q _ _ (e2.trans (Ex.new hp)) ⟨p, vs, rfl, fresh_back (e.trans e2) hp, upd_same, hm vs _ _ (Ex.new hp) r⟩⟩
theorem eap_U {tr : TA} {xs : List V} {R : List V → Hp → Prop} (h : EvA tr σ H xs) (hl : xs.length ≤ 100000) {tq : TA} (hq : EvAP tq σ H R) : EvAP (tCons (tTup tr) tq) σ H (fun vs H2 => ∃ v r, vs = v :: r ∧ TupAt xs v H2 ∧ R r H2) :=
  eap_consM (ep_tup h hl) (fun _ _ _ e p => p.mono e) hq
/-- over a new tuple -/
theorem s_forNT {xs : List V} {tl : TE} (h : EvU tl σ H xs) (Pv : Addr → Nat → L2.St → Hp → Prop) (h0 : ∀ p H1, H p = none → Ex H H1 → H1 p = some (.tup xs) → Pv p 0 σ H1) (hl : ∀ p i σ' H', i ≤ xs.length → Pv p i σ' H' → SqT K H' p xs)
    (hs : ∀ p i x σ' H', xs[i]? = some x → Pv p i σ' H' → g x σ' H' fun σ2 H2 => tu { D with nx := Pv p (i + 1), ct := Pv p (i + 1), bk := D.nx } σ2 H2) (hd : ∀ p σ' H', Pv p xs.length σ' H' → D.nx σ' H') : tFor (iTup K tl) g tu D σ H :=
  h H (Ex.refl H) _ fun p H1 hp e h1 => ⟨p, rfl, ⟨xs, st_of h1⟩, for_tup (Pv p) (h0 p H1 hp e h1) (hl p) (hs p) (hd p)⟩
theorem ev_dget2 {a b : Addr} {kvs : List (List Key × V)} {k : List Key} (hd : Ev td σ H (.ref a)) (hH : H a = some (.dT kvs)) (hy : Ev ty σ H (.ref b)) (hb : H b = some (.tup (k.map kV))) (hx : Ev tx σ H z) : Ev (tDGet2 td ty tx) σ H ((valV kvs k).getD z) := fun H1 e Q q =>
  hd H1 e _ fun H2 e2 => ⟨a, rfl, .inr ⟨kvs, .inl ((e.trans e2) _ _ hH)⟩, hy H2 (e.trans e2) _ fun H3 e3 => hx H3 ((e.trans e2).trans e3) _ fun H4 e4 =>
    ⟨valV kvs k, DGet.t ((((e.trans e2).trans e3).trans e4) _ _ hH) ((((e.trans e2).trans e3).trans e4) _ _ hb), q H4 ((e2.trans e3).trans e4)⟩⟩
/-- len, of what is told by a property -/
theorem ev_lenL {p : Addr} {xs : List V} (ha : Ev ta σ H (.ref p)) (h : SqL K H p xs) : Ev (tCB (rLenS K) (tCons ta tNil)) σ H (.int (xs.length : Int)) := ev_len ha h
theorem ev_lenT {p : Addr} {xs : List V} (ha : Ev ta σ H (.ref p)) (h : SqT K H p xs) : Ev (tCB (rLenS K) (tCons ta tNil)) σ H (.int (xs.length : Int)) := fun H1 e Q q =>
  ha H1 e _ fun H2 e2 => ⟨p, xs, rfl, Or.inr (ex_t (e.trans e2) h), q H2 e2⟩
/-- isinstance(x, a built-in class) -/
theorem ev_isi {n : String} {tv : Value} {b : Bool} (ha : Ev ta σ H x) (hx : ∀ H1, Ex H H1 → TyX K H1 x tv) (hk : PySem.W.kitOne K tv (.type n) = some b) : Ev (tCB (rIsi K) (tCons ta (tCons (tC (.ty n)) tNil))) σ H (.bl b) := fun H1 e Q q =>
  ha H1 e _ fun H2 e2 => ⟨x, .ty n, tv, .type n, b, rfl, .ty n, hx H2 (e.trans e2), hk, q H2 e2⟩
/-- what keeps the tuples -/
def ExT (H H' : Hp) : Prop := ∀ a xs, H a = some (.tup xs) → H' a = some (.tup xs)
theorem ExT.of (e : Ex H H') : ExT H H' := fun a xs h => e a _ h
theorem ExT.trans {H1 : Hp} (a : ExT H H1) (b : ExT H1 H') : ExT H H' := fun c xs h => b c xs (a c xs h)
theorem ExT.upd {p : Addr} {xs : List V} {o : HO} (hp : H p = some (.lst xs)) : ExT H (upd H p o) := fun a ys h => by
  rw [upd_ne (ne_of h hp (by intro z; cases z))]
  exact h
end

/-! ### C(e, ..) where what is raised is wished for at the caller's slots -/
section
variable {X : Cx} {CX : CXT} {k : Nat} {f C : Addr} {fd : FuncData} {ps : List Str} {sp : Sp} {E : L2.St → XK} {x : Str} {p pos : Pos} {e : Expr} {es : List Expr} {t : TA}
def tMakeS (C : Addr) (sp : Sp) (E : L2.St → XK) (t : TA) : TE := fun σ H Q => t σ H fun vs H1 => ∀ x dx, H1 x = none → H1 dx = none → dx ≠ x →
  sp (.ref x :: vs) (upd (upd H1 dx (.own x)) x (.ins C dx [])) (fun v H2 => v = .non ∧ Q (.ref x) H2) (E σ)
theorem run_makeS {pins : List (Addr × Obj)} {σ : L2.St} {H : Hp} {s : Shared} {Q : VK} {us : List Value} {vs : List V} (M : Mk X.K C f) (F : FnOk X.prog X.w X.K X.mg X.base CX k f fd ps sp) (hr : Room (k + 1) X.A) (hb : Binds X.K fd ps [])
    (hx : PassesAt CX X σ (E σ)) (I : Inv X pins σ H s) (r : Vals vs us)
    (h : ∀ x dx, H x = none → H dx = none → dx ≠ x → sp (.ref x :: vs) (upd (upd H dx (.own x)) x (.ins C dx [])) (fun v H2 => v = .non ∧ Q (.ref x) H2) (E σ)) :
    wpAny (model X.prog X.w) X.A (call (.ref C) us) (EP X pins σ Q) X.xe s := by
  have hq := h (s.heap.objs.size + 1) s.heap.objs.size (I.hok.fresh (Nat.le_succ _)) (I.hok.fresh (Nat.le_refl _)) (Nat.ne_of_lt (Nat.lt_succ_self _))
  have I2 := Inv.made (C := C) I
  have r2 : Vals (V.ref (s.heap.objs.size + 1) :: vs) (Value.ref (s.heap.objs.size + 1) :: us) := .cons rfl r
  have hl : (Value.ref (s.heap.objs.size + 1) :: us).length = ps.length := by
    have e := r2.length
    rw [F.len _ _ _ _ hq] at e
    exact e.symm
  have b := hb { s with heap := (s.heap.push PySem.W.emptyDict).push (PySem.W.instObj C s.heap.objs.size) } (Value.ref (s.heap.objs.size + 1) :: us) I2.kIn (by rw [List.append_nil]; exact hl)
  rw [List.append_nil] at b
  refine wpAny_call (make_map (f := f) I.kIn M.makes M.init (beq_iff_eq.mp M.fn) (codeAny_mono (F.run _ X.stack _ _ ⟨Value.ref (s.heap.objs.size + 1) :: us, []⟩ (Value.ref (s.heap.objs.size + 1) :: us) _ _ (E σ) (hr.make C us [])
    (I2.env0.make C us []) b r2 hq) fun r s' hq' => ?_))
  cases r with
  | error e => exact hx pins _ _ e s' I2 hq'
  | ok fl =>
    cases fl with
    | ret u =>
      obtain ⟨v, H', I3, rv, ev, q3⟩ := I2.after hq'
      subst ev
      exact ⟨rv, ⟨V.ref (s.heap.objs.size + 1), H', I3, rfl, q3⟩⟩
    | next => exact False.elim hq'
    | brk => exact False.elim hq'
    | cont => exact False.elim hq'
theorem pe_makeS (M : Mk X.K C f) (F : FnOk X.prog X.w X.K X.mg X.base CX k f fd ps sp) (hr : Room (k + 1) X.A) (hg : Gl X x) (hm : X.mg x = some (.ref C)) (hb : Binds X.K fd ps []) (hx : ∀ σ, PassesAt CX X σ (E σ))
    (ha : PA X (e :: es) t) (hdb : (x == ("__debug__" : Str)) = false := by decide) (he : starEach (e :: es) X.env = (false, eval e X.env) :: starEach es X.env := by rfl) (hpl : (backTo pos (starEach es X.env)).any (·.1) = false := by rfl) :
    PE X (.Call (.Name x p) (e :: es) [] pos) (tMakeS C sp E t) := by
  refine ⟨fun pins s σ H Q I h => ?_⟩
  refine wpAny_Call_Name_kw (ld_glob I hg hm ?_ hdb)
  refine PySem.W.callWith_K (h₀ := X.base) I.ok.mod.kin M.kp (thn (ha.run pos pins s σ H _ I h) fun us s1 ⟨vs, H1, I1, r, q⟩ => ⟨I1.kIn, ?_⟩) he hpl
  exact run_makeS M F hr hb (hx σ) I1 r q
end
end SD

/-! SDLines: bare boards, their lines by numbers alone. -/
namespace SD
/-- a quarter: column, row, corner -/
abbrev Q3 := Nat × Nat × Nat
def bes (k : Nat) : Nat := if k = 0 then 1 else if k = 1 then 0 else if k = 2 then 3 else 2
def lv (w : Nat) (q : Q3) : Q3 :=
  if q.2.2 = 0 ∨ q.2.2 = 3 then (if 0 < q.1 then (q.1 - 1, q.2.1, (q.2.2 + 2) % 4) else (q.1, q.2.1, 3 - q.2.2))
  else (if q.1 + 1 < w then (q.1 + 1, q.2.1, (q.2.2 + 2) % 4) else (q.1, q.2.1, 3 - q.2.2))
def up (h : Nat) (q : Q3) : Q3 :=
  if q.2.2 < 2 then (if 0 < q.2.1 then (q.1, q.2.1 - 1, (q.2.2 + 2) % 4) else (q.1, q.2.1, bes q.2.2))
  else (if q.2.1 + 1 < h then (q.1, q.2.1 + 1, (q.2.2 + 2) % 4) else (q.1, q.2.1, bes q.2.2))
def Ok (w h : Nat) (q : Q3) : Prop := q.1 < w ∧ q.2.1 < h ∧ q.2.2 < 4
theorem bes_lt (k : Nat) : bes k < 4 := by
  unfold bes
  split
  · omega
  · split
    · omega
    · split <;> omega
theorem lv_ok {w h : Nat} {q : Q3} (o : Ok w h q) : Ok w h (lv w q) := by
  obtain ⟨c, r, k⟩ := q
  obtain ⟨h1, h2, h3⟩ := o
  dsimp only at h1 h2 h3
  unfold lv
  dsimp only
  split <;> split <;> refine ⟨?_, ?_, ?_⟩ <;> dsimp only <;> omega
theorem up_ok {w h : Nat} {q : Q3} (o : Ok w h q) : Ok w h (up h q) := by
  obtain ⟨c, r, k⟩ := q
  obtain ⟨h1, h2, h3⟩ := o
  have hb := bes_lt k
  dsimp only at h1 h2 h3
  unfold up
  dsimp only
  split <;> split <;> refine ⟨?_, ?_, ?_⟩ <;> dsimp only <;> omega
def nxt (w h : Nat) (l : Bool) (q : Q3) : Q3 := if l = true then lv w q else up h q
theorem nxt_ok {w h : Nat} {l : Bool} {q : Q3} (o : Ok w h q) : Ok w h (nxt w h l q) := by
  unfold nxt
  split
  · exact lv_ok o
  · exact up_ok o
/-- the line from first: acc backwards, the quarter at hand, the side to take next -/
def go (w h : Nat) (first : Q3) : Nat → Q3 → Bool → List Q3 → Option (List Q3)
  | 0, _, _, _ => none
  | f + 1, here, l, acc => if here = first then some acc.reverse else go w h first f (nxt w h l here) (!l) (here :: acc)
theorem go_len {w h : Nat} {first : Q3} : ∀ {f : Nat} {here : Q3} {l : Bool} {acc L : List Q3}, go w h first f here l acc = some L → L.length ≤ acc.length + f
  | 0, _, _, _, _, e => by simp [go] at e
  | f + 1, here, l, acc, L, e => by
    unfold go at e
    split at e
    · cases e
      simp
    · have z := go_len e
      simp only [List.length_cons] at z
      omega
theorem go_ok {w h : Nat} {first : Q3} : ∀ {f : Nat} {here : Q3} {l : Bool} {acc L : List Q3}, go w h first f here l acc = some L → Ok w h here → (∀ q ∈ acc, Ok w h q) → ∀ q ∈ L, Ok w h q
  | 0, _, _, _, _, e, _, _ => by simp [go] at e
  | f + 1, here, l, acc, L, e, oh, oa => by
    unfold go at e
    split at e
    · cases e
      intro q hq
      exact oa q (List.mem_reverse.mp hq)
    · exact go_ok e (nxt_ok oh) fun q hq => by
        rcases List.mem_cons.mp hq with e1 | e1
        · rw [e1]
          exact oh
        · exact oa q e1
def code (q : Q3) : Nat := 48 * q.2.1 + 4 * q.1 + q.2.2
theorem code_inj {w h : Nat} (hw : w ≤ 12) {p q : Q3} (op : Ok w h p) (oq : Ok w h q) (e : code p = code q) : p = q := by
  obtain ⟨a, b, c⟩ := p
  obtain ⟨a', b', c'⟩ := q
  obtain ⟨h1, h2, h3⟩ := op
  obtain ⟨h4, h5, h6⟩ := oq
  simp only [code] at e h1 h2 h3 h4 h5 h6
  have e1 : b = b' := by omega
  have e2 : a = a' := by omega
  have e3 : c = c' := by omega
  rw [e1, e2, e3]
def put (m : Nat) (q : Q3) : Nat := m ||| 2 ^ code q
theorem put_bit (m : Nat) (q : Q3) (i : Nat) : (put m q).testBit i = (m.testBit i || decide (code q = i)) := by
  unfold put
  rw [Nat.testBit_or, Nat.testBit_two_pow]
/-- a turn of the three loops: what has been seen, the lengths of the lines found so far (backwards) -/
abbrev S := Nat × List Nat
def turn (w h : Nat) (s : S) (q : Q3) : Option S :=
  if s.1.testBit (code q) = true then some s else match go w h q (4 * w * h + 1) (lv w q) false [q] with
    | some L => some (L.foldl put s.1, L.length :: s.2)
    | none => none
def stK (w h r c : Nat) (s : Option S) : Nat → Option S
  | 0 => s
  | k + 1 => (stK w h r c s k).bind fun s => turn w h s (c, r, k)
def stC (w h r : Nat) (s : Option S) : Nat → Option S
  | 0 => s
  | c + 1 => stK w h r c (stC w h r s c) 4
def stR (w h : Nat) : Nat → Option S
  | 0 => some (0, [])
  | r + 1 => stC w h r (stR w h r) w
theorem stK_none (w h r c : Nat) : ∀ k, stK w h r c none k = none
  | 0 => rfl
  | k + 1 => by
    show (stK w h r c none k).bind _ = none
    rw [stK_none w h r c k]
    rfl
theorem stK_some {w h r c : Nat} {s : Option S} {n : Nat} (e : (stK w h r c s n).isSome = true) : ∀ k, k ≤ n → (stK w h r c s k).isSome = true := by
  induction n with
  | zero =>
    intro k hk
    have : k = 0 := by omega
    subst this
    exact e
  | succ n ih =>
    intro k hk
    by_cases h1 : k = n + 1
    · subst h1
      exact e
    · refine ih ?_ k (by omega)
      cases q : stK w h r c s n with
      | some x => rfl
      | none =>
        have e' : ((stK w h r c s n).bind fun s => turn w h s (c, r, n)).isSome = true := e
        rw [q] at e'
        cases e'
theorem stC_some {w h r : Nat} {s : Option S} {n : Nat} (e : (stC w h r s n).isSome = true) : ∀ k, k ≤ n → (stC w h r s k).isSome = true := by
  induction n with
  | zero =>
    intro k hk
    have : k = 0 := by omega
    subst this
    exact e
  | succ n ih =>
    intro k hk
    by_cases h1 : k = n + 1
    · subst h1
      exact e
    · exact ih (stK_some (n := 4) e 0 (by omega)) k (by omega)
theorem stR_some {w h : Nat} {n : Nat} (e : (stR w h n).isSome = true) : ∀ k, k ≤ n → (stR w h k).isSome = true := by
  induction n with
  | zero =>
    intro k hk
    have : k = 0 := by omega
    subst this
    exact e
  | succ n ih =>
    intro k hk
    by_cases h1 : k = n + 1
    · subst h1
      exact e
    · exact ih (stC_some (n := w) e 0 (by omega)) k (by omega)
/-- the greatest common divisor as the law reckons it -/
def com (w h : Nat) : Nat → Nat
  | 0 => 1
  | k + 1 => if w % (k + 1) = 0 ∧ h % (k + 1) = 0 then k + 1 else com w h k
def good (w h : Nat) : Bool := match stR w h h with
  | some s => decide (s.2.length = com w h w) && s.2.all fun l => decide (l * com w h w = 4 * w * h)
  | none => false
def allGood : Bool := (List.range 12).all fun i => (List.range 12).all fun j => !(decide ((i + 1) * (j + 1) ≤ 36)) || good (i + 1) (j + 1)
theorem all_good : allGood = true := by decide +kernel
theorem good_of {w h : Nat} (w1 : 1 ≤ w) (w2 : w ≤ 12) (h1 : 1 ≤ h) (h2 : h ≤ 12) (m : w * h ≤ 36) : good w h = true := by
  have z := all_good
  unfold allGood at z
  have z1 := List.all_eq_true.mp z (w - 1) (List.mem_range.mpr (by omega))
  have z2 := List.all_eq_true.mp z1 (h - 1) (List.mem_range.mpr (by omega))
  rw [show w - 1 + 1 = w by omega, show h - 1 + 1 = h by omega, decide_eq_true m] at z2
  simpa using z2
theorem good_is {w h : Nat} (g : good w h = true) : ∃ m ns, stR w h h = some (m, ns) ∧ ns.length = com w h w ∧ ∀ l ∈ ns, l * com w h w = 4 * w * h := by
  unfold good at g
  split at g
  · rename_i s e
    rw [Bool.and_eq_true] at g
    refine ⟨s.1, s.2, e, of_decide_eq_true g.1, fun l hl => of_decide_eq_true (List.all_eq_true.mp g.2 l hl)⟩
  · cases g
end SD

namespace SD
open PySem PySem.Spec PyProof.Rows L2 Evl
/-! ### the text by places -/
def topS (i : Nat) : Stmt := PySem.Challenge.pw_sandline_k08_whole_bare_boards.main.body.getD i (.Pass ⟨0, 0, 0, 0⟩)
abbrev s_init : Stmt := inClass (topS 15) 0
abbrev s_has : Stmt := inClass (topS 15) 1
abbrev s_sign : Stmt := inClass (topS 15) 3
abbrev s_level : Stmt := topS 3
abbrev s_upright : Stmt := topS 4
abbrev s_led : Stmt := topS 5
abbrev s_from : Stmt := topS 6
abbrev s_lines : Stmt := topS 7
abbrev s_cell : Stmt := topS 17
abbrev s_size : Stmt := topS 18
abbrev s_common : Stmt := topS 19
abbrev s_law : Stmt := topS 20
/-! ### a board without mirrors -/
def bf (w h : Int) (d : Addr) : List (Str × V) := putF "mirrors" (.ref d) (putF "high" (.int h) (putF "wide" (.int w) []))
theorem bf_wide (w h : Int) (d : Addr) : (bf w h d).lookup ("wide" : Str) = some (.int w) := by
  unfold bf
  rw [lookup_putF, if_neg (by decide +kernel), lookup_putF, if_neg (by decide +kernel), lookup_putF, if_pos rfl]
theorem bf_high (w h : Int) (d : Addr) : (bf w h d).lookup ("high" : Str) = some (.int h) := by
  unfold bf
  rw [lookup_putF, if_neg (by decide +kernel), lookup_putF, if_pos rfl]
theorem bf_mirrors (w h : Int) (d : Addr) : (bf w h d).lookup ("mirrors" : Str) = some (.ref d) := by
  unfold bf
  rw [lookup_putF, if_pos rfl]
theorem bf_no (w h : Int) (d : Addr) {m : Str} (h1 : ¬ m = "mirrors") (h2 : ¬ m = "high") (h3 : ¬ m = "wide") : (bf w h d).lookup m = none := by
  unfold bf
  rw [lookup_putF, if_neg h1, lookup_putF, if_neg h2, lookup_putF, if_neg h3]
  rfl
/-- a board of these sizes at v, no mirrors -/
def Bd (C : Addr) (H : Hp) (v : V) (w h : Int) : Prop := ∃ a dx d, v = .ref a ∧ H a = some (.ins C dx (bf w h d)) ∧ H d = some (.dT [])
theorem Bd.mono {C : Addr} {H H' : Hp} {v : V} {w h : Int} (e : Ex H H') (b : Bd C H v w h) : Bd C H' v w h :=
  let ⟨a, dx, d, h1, h2, h3⟩ := b
  ⟨a, dx, d, h1, e _ _ h2, e _ _ h3⟩
abbrev Door := Str × Int × Int
def IsDr (H : Hp) (v : V) (d : Door) : Prop := ∃ a, v = .ref a ∧ H a = some (.tup [.str d.1, .int d.2.1, .int d.2.2])
theorem IsDr.mono {H H' : Hp} {v : V} {d : Door} (e : Ex H H') (b : IsDr H v d) : IsDr H' v d :=
  let ⟨a, h1, h2⟩ := b
  ⟨a, h1, e _ _ h2⟩
def hasF (w h : Int) (d : Door) : Bool :=
  if d.1 = ("row" : Str) then (decide (0 ≤ d.2.1) && decide (d.2.1 < w - 1)) && (decide (0 ≤ d.2.2) && decide (d.2.2 < h))
  else if d.1 = ("column" : Str) then (decide (0 ≤ d.2.1) && decide (d.2.1 < w)) && (decide (0 ≤ d.2.2) && decide (d.2.2 < h - 1)) else false
/-! ### mathematics: sizes, cells -/
def cel (ns : List Int) (k : Nat) : Int := ns.getD k 0
def pairs (m : Int) : Int × Int := if m = 0 then (7, 4) else if m = 1 then (8, 4) else if m = 2 then (9, 4) else (7, 5)
def sizeOf (cell : Int) : Int × Int :=
  if cell % 8 = 5 then (if cell / 8 / 4 % 2 = 0 then pairs (cell / 8 % 4) else ((pairs (cell / 8 % 4)).2, (pairs (cell / 8 % 4)).1))
  else if cell % 8 = 6 then (1 + cell / 8 % 12, 1 + cell / 8 / 12 % 3)
  else if cell % 8 = 7 then (1 + cell / 8 % 3, 1 + cell / 8 / 3 % 12)
  else (1 + cell / 8 % 6, 1 + cell / 8 / 6 % 6)
def numOf (cell : Int) : Int := if cell % 9 = 8 then (if cell / 9 % 2 = 0 then -1 else 1) * (cell / 18 % 10 ^ 20) else cell / 9 % 20 - 3
def okSize (w h : Int) : Bool := (decide (1 ≤ w) && decide (w ≤ 12)) && ((decide (1 ≤ h) && decide (h ≤ 12)) && decide (w * h ≤ 36))
/-! ### what the top has written -/
structure Ad where
  C : Addr
  NB : Addr
  bes : Addr
  init : Addr
  d_init : FuncData
  has : Addr
  d_has : FuncData
  sign : Addr
  d_sign : FuncData
  level : Addr
  d_level : FuncData
  upright : Addr
  d_upright : FuncData
  led : Addr
  d_led : FuncData
  lfrom : Addr
  d_lfrom : FuncData
  lines : Addr
  d_lines : FuncData
  cell : Addr
  d_cell : FuncData
  size : Addr
  d_size : FuncData
  common : Addr
  d_common : FuncData
structure Txt (K : PySem.W.Frag) (mg : Str → Option Value) (A : Ad) : Prop where
  cl : Cls K A.C
  n_wide : NoAttr K A.C "wide"
  n_high : NoAttr K A.C "high"
  n_mirrors : NoAttr K A.C "mirrors"
  z_range : mg "range" = none
  z_len : mg "len" = none
  z_isinstance : mg "isinstance" = none
  z_list : mg "list" = none
  g_WIDEST : ∃ t, mg "WIDEST" = some (.int 12 t)
  g_MOST : ∃ t, mg "MOST" = some (.int 36 t)
  g_BESIDE : mg "BESIDE" = some (.ref A.bes)
  t_BESIDE : ∀ H, SqT K H A.bes [.int 1, .int 0, .int 3, .int 2]
  g_Board : mg "Board" = some (.ref A.C)
  g_NoBoard : mg "NoBoard" = some (.ref A.NB)
  x_NB : PySem.W.excIn K A.NB [.type "ValueError", .type "Exception", .type "BaseException", .type "object"] "ValueError.__new__" = true
  k_NB : PySem.W.keepIn K (.ref A.NB) = true
  r_NB : PySem.W.subIn K (.ref A.NB) (.type "BaseException") = some true
  t_NB : PySem.W.typeIn K (.ref A.NB) = some (.type "type")
  M_Board : Mk K A.C A.init
  F_init : Fun K "__init__" "Board.__init__" s_init A.init A.d_init
  b_Board_init : Binds K A.d_init ["self", "wide", "high"] []
  F_has : Fun K "has" "Board.has" s_has A.has A.d_has
  b_has : Binds K A.d_has ["self", "door"] []
  m_has : Meth K A.C "has" A.has
  F_sign : Fun K "sign" "Board.sign" s_sign A.sign A.d_sign
  b_sign : Binds K A.d_sign ["self", "door"] []
  m_sign : Meth K A.C "sign" A.sign
  F_led_level : Fun K "led_level" "led_level" s_level A.level A.d_level
  b_led_level : Binds K A.d_level ["board", "quarter"] []
  g_led_level : mg "led_level" = some (.ref A.level)
  F_led_upright : Fun K "led_upright" "led_upright" s_upright A.upright A.d_upright
  b_led_upright : Binds K A.d_upright ["board", "quarter"] []
  g_led_upright : mg "led_upright" = some (.ref A.upright)
  F_led : Fun K "led" "led" s_led A.led A.d_led
  b_led : Binds K A.d_led ["board", "quarter", "level"] []
  g_led : mg "led" = some (.ref A.led)
  F_line_from : Fun K "line_from" "line_from" s_from A.lfrom A.d_lfrom
  b_line_from : Binds K A.d_lfrom ["board", "first"] []
  g_line_from : mg "line_from" = some (.ref A.lfrom)
  F_lines : Fun K "lines" "lines" s_lines A.lines A.d_lines
  b_lines : Binds K A.d_lines ["board"] []
  g_lines : mg "lines" = some (.ref A.lines)
  F_law_cell_at : Fun K "_law_cell_at" "_law_cell_at" s_cell A.cell A.d_cell
  b_law_cell_at : Binds K A.d_cell ["script", "k"] []
  g_law_cell_at : mg "_law_cell_at" = some (.ref A.cell)
  F_law_size : Fun K "_law_size" "_law_size" s_size A.size A.d_size
  b_law_size : Binds K A.d_size ["cell"] []
  g_law_size : mg "_law_size" = some (.ref A.size)
  F_law_common : Fun K "_law_common" "_law_common" s_common A.common A.d_common
  b_law_common : Binds K A.d_common ["one", "other"] []
  g_law_common : mg "_law_common" = some (.ref A.common)
section
variable {P : Program} {w : World} {K : PySem.W.Frag} {mg : Str → Option Value} {base : Heap} {A : Ad}
def spHas (C : Addr) : Sp := fun vs H Q _ => ∃ (b q : V) (w h : Int) (d : Door), vs = [b, q] ∧ Bd C H b w h ∧ IsDr H q d ∧ ∀ H2, Ex H H2 → Q (.bl (hasF w h d)) H2
theorem sc_has : FnScope ["self", "door", "kind", "column", "row"] ["self", "door"] (defScope s_has) := ⟨rfl, rfl, rfl, by decide +kernel, rfl, by decide +kernel, by decide +kernel⟩
theorem ok_has (T : Txt K mg A) : FnOk P w K mg base CX0 1 A.has A.d_has ["self", "door"] (spHas A.C) := by
  have SC := sc_has
  refine T.F_has.ok sc_has (fun vs H Q E h => ?_) (fun cdv A' outer s H vs Q E hr h => ?_)
  · obtain ⟨b, q, w, h, d, rfl, _⟩ := h
    rfl
  · obtain ⟨b, q, w, h, d, rfl, ⟨a, dx, dd, rfl, hb, hd⟩, ⟨t, rfl, ht⟩, k⟩ := h
    obtain ⟨kd, c, r⟩ := d
    refine ⟨_, (pss_cons (ps_asg (pv 1) (pg_tup (by rfl) (pgs_cons (pg_name (i := 2) SC.nd rfl (.inl rfl)) (pgs_cons (pg_name (i := 3) SC.nd rfl (.inl rfl)) (pgs_cons (pg_name (i := 4) SC.nd rfl (.inl rfl)) pgs_nil)))))
      (pss_cons (ps_if (pt_cmpR op_eq (pv 2) pe_str (nomark _)) (pss_one (ps_ret (pe_and (pe_chain op_le op_lt pe_int (pv 3) (pe_op op_sub (pe_fld (pv 0) rfl) pe_int)) (pe_one (pe_chain op_le op_lt pe_int (pv 4) (pe_fld (pv 0) rfl)))))) pss_nil)
      (pss_cons (ps_if (pt_cmpR op_eq (pv 2) pe_str (nomark _)) (pss_one (ps_ret (pe_and (pe_chain op_le op_lt pe_int (pv 3) (pe_fld (pv 0) rfl)) (pe_one (pe_chain op_le op_lt pe_int (pv 4) (pe_op op_sub (pe_fld (pv 0) rfl) pe_int)))))) pss_nil)
      (pss_one (ps_ret pe_bl))))), ?_⟩
    refine q_asgG (ep_ev (ev_var rfl)) ?_
    rintro v H1 e1 rfl
    refine g_three (st_of (e1 _ _ ht)) ?_
    have hb1 := e1 _ _ hb
    refine q_when (b := decide (kd = "row")) (et_is (et_test (ev_op (ev_var rfl) ev_c (rv_eq (by rfl)))) (by simp)) (fun hk H2 e2 => ?_) (fun hk H2 e2 => ?_)
    · have hb2 := e2 _ _ hb1
      refine s_ret (v := .bl (hasF w h (kd, c, r))) (ev_is (ev_andV (ev_chain ev_c (ev_var rfl) rv_I0 (fun _ => (ev_op (ev_fld (ev_var rfl) (by assumption) T.cl T.n_wide (bf_wide _ _ _)) ev_c rv_I0)) (fun _ => rv_I0)) (fun _ => (ev_chain ev_c (ev_var rfl) rv_I0 (fun _ => (ev_fld (ev_var rfl) (by assumption) T.cl T.n_high (bf_high _ _ _))) (fun _ => rv_I0)))) ?_) fun H3 e3 => k H3 ((e1.trans e2).trans e3)
      have hk' : kd = "row" := of_decide_eq_true hk
      simp only [hasF, hk', if_true]
    · have hb2 := e2 _ _ hb1
      have hk' : ¬ kd = "row" := of_decide_eq_false hk
      refine q_when (b := decide (kd = "column")) (et_is (et_test (ev_op (ev_var rfl) ev_c (rv_eq (by rfl)))) (by simp)) (fun hk2 H3 e3 => ?_) (fun hk2 H3 e3 => ?_)
      · have hb3 := e3 _ _ hb2
        refine s_ret (v := .bl (hasF w h (kd, c, r))) (ev_is (ev_andV (ev_chain ev_c (ev_var rfl) rv_I0 (fun _ => (ev_fld (ev_var rfl) (by assumption) T.cl T.n_wide (bf_wide _ _ _))) (fun _ => rv_I0)) (fun _ => (ev_chain ev_c (ev_var rfl) rv_I0 (fun _ => (ev_op (ev_fld (ev_var rfl) (by assumption) T.cl T.n_high (bf_high _ _ _)) ev_c rv_I0)) (fun _ => rv_I0)))) ?_) fun H4 e4 => k H4 (((e1.trans e2).trans e3).trans e4)
        have hk2' : kd = "column" := of_decide_eq_true hk2
        simp only [hasF, if_neg hk', if_pos hk2']
      · have hk2' : ¬ kd = "column" := of_decide_eq_false hk2
        refine s_ret (v := .bl (hasF w h (kd, c, r))) (ev_is ev_c ?_) fun H4 e4 => k H4 (((e1.trans e2).trans e3).trans e4)
        simp only [hasF, if_neg hk', if_neg hk2']
/-- self.has(a door) -/
theorem ev_has {σ : L2.St} {H : Hp} {ta : TE} {tl : TA} {b : V} {w h : Int} {d : Door} {E : XK} (hb : Bd A.C H b w h) (ho : Ev ta σ H b) (ha : EvAP tl σ H (fun vs H1 => ∃ q, vs = [q] ∧ IsDr H1 q d)) :
    Ev (tMeth A.C "has" (spHas A.C) [] E ta tl) σ H (.bl (hasF w h d)) := by
  obtain ⟨a, dx, dd, rfl, h1, h2⟩ := id hb
  exact ev_ep (ep_meth ho h1 (bf_no _ _ _ (by decide +kernel) (by decide +kernel) (by decide +kernel)) ha fun vs H1 e ⟨q, ev, hq⟩ Q E k => by
    subst ev
    exact ⟨_, q, w, h, d, rfl, hb.mono e, hq, fun H2 e2 => k _ H2 e2 rfl⟩)
def spSign (C : Addr) : Sp := fun vs H Q _ => ∃ (b q : V) (w h : Int) (d : Door), vs = [b, q] ∧ Bd C H b w h ∧ IsDr H q d ∧ hasF w h d = true ∧ ∀ H2, Ex H H2 → Q (.str ".") H2
theorem sc_sign : FnScope ["self", "door"] ["self", "door"] (defScope s_sign) := ⟨rfl, rfl, rfl, by decide +kernel, rfl, by decide +kernel, by decide +kernel⟩
theorem ok_sign (T : Txt K mg A) : FnOk P w K mg base CX0 2 A.sign A.d_sign ["self", "door"] (spSign A.C) := by
  have SC := sc_sign
  have G_has : FnOk P w K mg base CX0 1 A.has A.d_has ["self", "door"] (spHas A.C) := ok_has T
  refine T.F_sign.ok sc_sign (fun vs H Q E h => ?_) (fun cdv A' outer s H vs Q E hr h => ?_)
  · obtain ⟨b, q, w, h, d, rfl, _⟩ := h
    rfl
  · obtain ⟨b, q, w, h, d, rfl, hb, hq, hh, k⟩ := h
    have hu := hu_of hr
    refine ⟨_, (pss_cons (ps_if (pt_not (pt_val (pe_meth (pv 0) T.cl T.m_has G_has (hr.mono (by decide)) T.b_has .nil pass0 (pa_cons (pv 1) pa_nil)))) (pss_one ps_never) pss_nil)
      (pss_one (ps_ret (pe_dget2 hu (pe_fld (pv 0) rfl) (pv 1) pe_str ⟨by rfl, by rfl, by rfl, by rfl⟩)))), ?_⟩
    obtain ⟨a, dx, dd, rfl, h1, h2⟩ := id hb
    obtain ⟨t, rfl, ht⟩ := id hq
    refine q_when (b := false) (et_is (et_not (et_B (ev_has hb (ev_var rfl) ((eap_ea (ea_cons (ev_var rfl) ea_nil)).imp fun vs H1 e ev => ⟨_, ev, hq.mono e⟩)))) (by rw [hh]; rfl)) (fun z => nomatch z) (fun _ H2 e2 => ?_)
    have h1' := e2 _ _ h1
    refine s_ret (v := .str ".") (ev_is (ev_dget2 (ev_fld (ev_var rfl) h1' T.cl T.n_mirrors (bf_mirrors _ _ _)) (e2 _ _ h2) (ev_var rfl) (k := [.inr d.1, .inl d.2.1, .inl d.2.2]) (e2 _ _ ht) ev_c) ?_) fun H3 e3 => k H3 (e2.trans e3)
    rfl
/-! ### Board(wide, high) -/
def spInit (C NB : Addr) : Sp := fun vs H Q E => ∃ (p dx : Addr) (w h : Int), vs = [.ref p, .int w, .int h] ∧ H p = some (.ins C dx []) ∧
  (okSize w h = true → ∀ (d : Addr) (H' : Hp), H d = none → H' p = some (.ins C dx (bf w h d)) → H' d = some (.dT []) → (∀ b o, H b = some o → b ≠ p → H' b = some o) → Q .non H') ∧ (okSize w h = false → ∀ H', Ex H H' → E (.ref NB) none H')
theorem sc_init : FnScope ["self", "wide", "high"] ["self", "wide", "high"] (defScope s_init) := ⟨rfl, rfl, rfl, by decide +kernel, rfl, by decide +kernel, by decide +kernel⟩
theorem ok_init (T : Txt K mg A) : FnOk P w K mg base (L2.CX P w) 1 A.init A.d_init ["self", "wide", "high"] (spInit A.C A.NB) := by
  have SC := sc_init
  obtain ⟨tW, gW⟩ := T.g_WIDEST
  obtain ⟨tM, gM⟩ := T.g_MOST
  refine T.F_init.okX sc_init (fun vs H Q E h => ?_) (fun cdv A' outer s H vs Q E hr h => ?_)
  · obtain ⟨p, dx, w, h, rfl, _⟩ := h
    rfl
  · obtain ⟨p, dx, w, h, rfl, hp, k1, k2⟩ := h
    refine ⟨_, (pss_cons (ps_if (PW.pt (pw_or (pt_not (pt_chain op_le op_le pe_int (pv 1) (pe_glob (v := .int 12) (by rfl) gW ⟨_, rfl⟩))) (pw_or (pt_not (pt_chain op_le op_le pe_int (pv 2) (pe_glob (v := .int 12) (by rfl) gW ⟨_, rfl⟩))) (pw_or1 (pt_cmpR op_gt (pe_op op_mul (pv 1) (pv 2)) (pe_glob (v := .int 36) (by rfl) gM ⟨_, rfl⟩) (nomark _)))))) (pss_one (ps_raise rfl (takes_of rfl rfl rfl rfl) (pmk_own PySem.F.excBase_ValueError T.x_NB T.g_NoBoard T.k_NB (raises_own T.r_NB T.t_NB) rfl))) pss_nil)
      (pss_cons (ps_fld (pv 0) (pv 1) rfl)
      (pss_cons (ps_fld (pv 0) (pv 2) rfl)
      (pss_one (ps_fld (pv 0) pe_dnewT rfl))))), ?_⟩
    have mul : (!(decide (1 ≤ w) && decide (w ≤ 12))) = false → CMul w h := fun q => by
      simp only [Bool.not_eq_false', Bool.and_eq_true, decide_eq_true_eq] at q
      exact .inl ⟨by omega, by omega⟩
    refine q_when (b := !okSize w h) (et_is (et_or (et_not (et_test (ev_chain ev_c (ev_var rfl) rv_I0 (fun _ => ev_c) (fun _ => rv_I0)))) fun q1 => et_or (et_not (et_test (ev_chain ev_c (ev_var rfl) rv_I0 (fun _ => ev_c) (fun _ => rv_I0)))) fun q2 => et_test (ev_op (ev_op (ev_var rfl) (ev_var rfl) (rv_I (mul q1))) ev_c rv_I0)) ?_) (fun hb' H2 e2 => ?_) (fun hb' H2 e2 => ?_)
    · have e1 : decide (w * h ≤ 36) = !decide (36 < w * h) := by
        by_cases q : w * h ≤ 36
        · rw [decide_eq_true q, decide_eq_false (by omega)]
          rfl
        · rw [decide_eq_false q, decide_eq_true (by omega)]
          rfl
      simp only [okSize, e1, Bool.not_and, Bool.not_not]
    · exact k2 (by simpa using hb') H2 e2
    · have hp2 := e2 _ _ hp
      have ok : okSize w h = true := by simpa using hb'
      refine ⟨_, rfl, _, rfl, p, A.C, dx, _, rfl, hp2, T.cl, T.n_wide, (by show 0 < 1000; decide), _, rfl, _, rfl, p, A.C, dx, _, rfl, upd_same, T.cl, T.n_high, (by show 1 < 1000; decide), ?_⟩
      intro d hd
      have npd : p ≠ d := fun q => by rw [q, upd_same] at hd; cases hd
      refine ⟨_, rfl, p, A.C, dx, _, rfl, Eq.trans (upd_ne npd) upd_same, T.cl, T.n_mirrors, ?_, ?_⟩
      · have n0 := length_putF ("wide" : Str) (.int w) []
        have n1 := length_putF ("high" : Str) (.int h) (putF "wide" (.int w) [])
        simp only [List.length_nil] at n0
        omega
      · rw [upd_ne npd.symm, upd_ne npd.symm] at hd
        refine k1 ok d _ (fresh_back e2 hd) upd_same (by rw [upd_ne npd.symm, upd_same]) fun b o hb hne => ?_
        rw [upd_ne hne, upd_ne (ne_of_none (e2 _ _ hb) hd), upd_ne hne, upd_ne hne]
        exact e2 _ _ hb
/-- Board(wide, high) where there is such a board -/
theorem ep_make {σ : L2.St} {H : Hp} {ta : TA} {w h : Int} {NB : Addr} (ha : EvA ta σ H [.int w, .int h]) (ok : okSize w h = true) : EvP (tMake A.C (spInit A.C NB) [] E0 ta) σ H (fun v H2 => Bd A.C H2 v w h) := fun H1 e Q q =>
  ha H1 e _ fun H2 e2 => fun x dx nx ndx ne => ⟨x, dx, w, h, rfl, upd_same, fun _ d H' hd h1 h2 keep => ⟨rfl, by
    refine q _ _ (fun b o hb => keep b o ?_ (ne_of_none (e2 _ _ hb) nx)) ⟨x, dx, d, rfl, h1, h2⟩
    rw [upd_ne (ne_of_none (e2 _ _ hb) nx), upd_ne (ne_of_none (e2 _ _ hb) ndx)]
    exact e2 _ _ hb⟩, fun z => by rw [ok] at z; cases z⟩
/-! ### the law's own helpers -/
def spCell (K : PySem.W.Frag) : Sp := fun vs H Q _ => ∃ (a : Addr) (ns : List Int) (k : Nat), vs = [.ref a, .int k] ∧ SqL K H a (ns.map V.int) ∧ ∀ H2, Ex H H2 → Q (.int (cel ns k)) H2
theorem sc_cell : FnScope ["script", "k"] ["script", "k"] (defScope s_cell) := ⟨rfl, rfl, rfl, by decide +kernel, rfl, by decide +kernel, by decide +kernel⟩
theorem ok_cell (T : Txt K mg A) : FnOk P w K mg base CX0 1 A.cell A.d_cell ["script", "k"] (spCell K) := by
  have SC := sc_cell
  refine T.F_law_cell_at.ok sc_cell (fun vs H Q E h => ?_) (fun cdv A' outer s H vs Q E hr h => ?_)
  · obtain ⟨a, ns, k, rfl, _⟩ := h
    rfl
  · obtain ⟨a, ns, k, rfl, hS, q⟩ := h
    refine ⟨_, (pss_cons (ps_if (pt_cmpR op_lt (pv 1) (pe_callB call_len_seq (by rfl) T.z_len (by decide +kernel) (pa_cons (pv 0) pa_nil)) (nomark _)) (pss_one (ps_ret (pe_ix ix_list (pv 0) (pv 1) (fun _ _ => rfl)))) pss_nil)
      (pss_one (ps_ret pe_int))), ?_⟩
    refine q_when (b := decide ((k : Int) < (ns.length : Int))) (et_is (et_test (ev_op (ev_var rfl) (ev_len (ev_var rfl) hS) rv_I0)) (by rw [List.length_map])) (fun hb H2 e2 => ?_) (fun hb H2 e2 => ?_)
    · have hk : k < ns.length := by
        have z := of_decide_eq_true hb
        omega
      refine s_ret (ev_op (ev_var rfl) (ev_var rfl) (rv_ixL (ex_l e2 hS) (atI_nat (j := k) ?_))) fun H3 e3 => q H3 (e2.trans e3)
      rw [List.getElem?_map]
      unfold cel
      rw [List.getD_eq_getElem?_getD, List.getElem?_eq_getElem hk]
      rfl
    · have hk : ns.length ≤ k := by
        have z := of_decide_eq_false hb
        omega
      have e0 : cel ns k = 0 := by
        unfold cel
        rw [List.getD_eq_getElem?_getD, List.getElem?_eq_none hk]
        rfl
      refine s_ret (v := .int (cel ns k)) (ev_is ev_c (by rw [e0])) fun H3 e3 => q H3 (e2.trans e3)
theorem ev_cell {σ : L2.St} {H : Hp} {ta : TA} {a : Addr} {ns : List Int} {k : Nat} {E : XK} (hS : SqL K H a (ns.map V.int)) (ha : EvA ta σ H [.ref a, .int k]) : Ev (tCall (spCell K) [] E ta) σ H (.int (cel ns k)) :=
  ev_ep (ep_call (eap_ea ha) fun vs H1 e ev Q E q => by
    subst ev
    exact ⟨a, ns, k, rfl, ex_l e hS, fun H2 e2 => q _ H2 e2 rfl⟩)
def spSize : Sp := fun vs H Q _ => ∃ cell : Int, vs = [.int cell] ∧ ∀ v H2, Ex H H2 → TupAt [.int (sizeOf cell).1, .int (sizeOf cell).2] v H2 → Q v H2
theorem sc_size : FnScope ["cell", "way", "more", "pair"] ["cell"] (defScope s_size) := ⟨rfl, rfl, rfl, by decide +kernel, rfl, by decide +kernel, by decide +kernel⟩
theorem ok_size (T : Txt K mg A) : FnOk P w K mg base CX0 1 A.size A.d_size ["cell"] spSize := by
  have SC := sc_size
  refine T.F_law_size.ok sc_size (fun vs H Q E h => ?_) (fun cdv A' outer s H vs Q E hr h => ?_)
  · obtain ⟨cell, rfl, _⟩ := h
    rfl
  · obtain ⟨cell, rfl, k⟩ := h
    refine ⟨_, (pss_cons (ps_set (i := 1) SC.nd rfl (.inl rfl) (pe_op op_mod (pv 0) pe_int))
      (pss_cons (ps_set (i := 2) SC.nd rfl (.inl rfl) (pe_op op_fdiv (pv 0) pe_int))
      (pss_cons (ps_if (pt_cmpR op_eq (pv 1) pe_int (nomark _)) (pss_cons (ps_set (i := 3) SC.nd rfl (.inl rfl) (pe_ix ix_list (pe_lst (pa_cons (pe_tup (pa_cons pe_int (pa_cons pe_int pa_nil))) (pa_cons (pe_tup (pa_cons pe_int (pa_cons pe_int pa_nil))) (pa_cons (pe_tup (pa_cons pe_int (pa_cons pe_int pa_nil))) (pa_cons (pe_tup (pa_cons pe_int (pa_cons pe_int pa_nil))) pa_nil))))) (pe_op op_mod (pv 2) pe_int) (fun _ _ => rfl)))
      (pss_one (ps_ret (pe_ifExp (pt_cmpR op_eq (pe_op op_mod (pe_op op_fdiv (pv 2) pe_int) pe_int) pe_int (nomark _)) (pv 3) (pe_tup (pa_cons (pe_ix ix_tup (pv 3) pe_int (fun _ _ => rfl)) (pa_cons (pe_ix ix_tup (pv 3) pe_int (fun _ _ => rfl)) pa_nil))))))) pss_nil)
      (pss_cons (ps_if (pt_cmpR op_eq (pv 1) pe_int (nomark _)) (pss_one (ps_ret (pe_tup (pa_cons (pe_op op_add pe_int (pe_op op_mod (pv 2) pe_int)) (pa_cons (pe_op op_add pe_int (pe_op op_mod (pe_op op_fdiv (pv 2) pe_int) pe_int)) pa_nil))))) pss_nil)
      (pss_cons (ps_if (pt_cmpR op_eq (pv 1) pe_int (nomark _)) (pss_one (ps_ret (pe_tup (pa_cons (pe_op op_add pe_int (pe_op op_mod (pv 2) pe_int)) (pa_cons (pe_op op_add pe_int (pe_op op_mod (pe_op op_fdiv (pv 2) pe_int) pe_int)) pa_nil))))) pss_nil)
      (pss_one (ps_ret (pe_tup (pa_cons (pe_op op_add pe_int (pe_op op_mod (pv 2) pe_int)) (pa_cons (pe_op op_add pe_int (pe_op op_mod (pe_op op_fdiv (pv 2) pe_int) pe_int)) pa_nil)))))))))), ?_⟩
    refine q_asg (ev_op (ev_var rfl) ev_c (rv_I (by decide))) fun H1 e1 => ?_
    refine q_asg (ev_op (ev_var rfl) ev_c (rv_I ⟨by decide, by decide⟩)) fun H2 e2 => ?_
    refine q_when (b := decide (cell % 8 = 5)) (et_is (et_test (ev_op (ev_var rfl) ev_c (rv_eq (by rfl)))) (by rw [decide_eq_decide]; exact ⟨V.int.inj, congrArg _⟩)) (fun hb H3 e3 => ?_) (fun hb H3 e3 => ?_)
    · have hw := of_decide_eq_true hb
      refine q_asgP (P := TupAt [.int (pairs (cell / 8 % 4)).1, .int (pairs (cell / 8 % 4)).2]) ?_ fun v H4 e4 pv => ?_
      · refine ep_op (ep_lstP (eap_U (ea_cons ev_c (ea_cons ev_c ea_nil)) (by decide) (eap_U (ea_cons ev_c (ea_cons ev_c ea_nil)) (by decide) (eap_U (ea_cons ev_c (ea_cons ev_c ea_nil)) (by decide) (eap_U (ea_cons ev_c (ea_cons ev_c ea_nil)) (by decide) eap_nil)))) ?_ ?_) ?_
        · rintro vs H1 ⟨v0, r0, rfl, _, v1, r1, rfl, _, v2, r2, rfl, _, v3, r3, rfl, _, rfl⟩
          simp
        · rintro vs Ha Hb e ⟨v0, r0, rfl, p0, v1, r1, rfl, p1, v2, r2, rfl, p2, v3, r3, rfl, p3, rfl⟩
          exact ⟨v0, _, rfl, p0.mono e, v1, _, rfl, p1.mono e, v2, _, rfl, p2.mono e, v3, _, rfl, p3.mono e, rfl⟩
        · rintro x H5 e5 ⟨p, vs, rfl, _, hp, v0, r0, rfl, p0, v1, r1, rfl, p1, v2, r2, rfl, p2, v3, r3, rfl, p3, rfl⟩
          refine (ep_ev (ev_op (ev_var rfl) ev_c (rv_I (by decide)))).imp fun y H6 e6 ey => ?_
          subst ey
          intro Q q
          have m0 : 0 ≤ cell / 8 % 4 := Int.emod_nonneg _ (by decide)
          have m1 : cell / 8 % 4 < 4 := Int.emod_lt_of_pos _ (by decide)
          have cs : cell / 8 % 4 = 0 ∨ cell / 8 % 4 = 1 ∨ cell / 8 % 4 = 2 ∨ cell / 8 % 4 = 3 := by omega
          have go : ∀ (j : Nat) (y : V), cell / 8 % 4 = (j : Int) → [v0, v1, v2, v3][j]? = some y → TupAt [.int (pairs (cell / 8 % 4)).1, .int (pairs (cell / 8 % 4)).2] y H5 → rIxL K (.ref p) (.int (cell / 8 % 4)) H6 Q := fun j y ej ey ty =>
            ⟨p, _, _, y, rfl, rfl, sq_of (e6 _ _ hp), at_of ej ey, q y H6 (Ex.refl _) (ty.mono e6)⟩
          rcases cs with c | c | c | c
          · exact go 0 v0 c rfl (by rw [c]; exact p0)
          · exact go 1 v1 c rfl (by rw [c]; exact p1)
          · exact go 2 v2 c rfl (by rw [c]; exact p2)
          · exact go 3 v3 c rfl (by rw [c]; exact p3)
      · obtain ⟨a, rfl, ha⟩ := pv
        refine s_retP (P := TupAt [.int (sizeOf cell).1, .int (sizeOf cell).2]) (ep_if (b := decide (cell / 8 / 4 % 2 = 0)) (et_is (et_test (ev_op (ev_op (ev_op (ev_var rfl) ev_c (rv_I ⟨by decide, by decide⟩)) ev_c (rv_I (by decide))) ev_c (rv_eq (by rfl)))) (by rw [decide_eq_decide]; exact ⟨V.int.inj, congrArg _⟩)) (fun hb2 => ?_) (fun hb2 => ?_)) fun v H5 e5 pv => k v H5 ((((e1.trans e2).trans e3).trans e4).trans e5) pv
        · refine (ep_ev (ev_var rfl)).imp fun y H5 e5 ey => ?_
          subst ey
          refine ⟨a, rfl, ?_⟩
          have es : sizeOf cell = pairs (cell / 8 % 4) := by rw [sizeOf, if_pos hw, if_pos (of_decide_eq_true hb2)]
          rw [es]
          exact e5 _ _ ha
        · refine (ep_tup (ea_cons (ev_op (ev_var rfl) ev_c (rv_ixT (st_of ha) (atI_nat (j := 1) rfl))) (ea_cons (ev_op (ev_var rfl) ev_c (rv_ixT (st_of ha) (atI_nat (j := 0) rfl))) ea_nil))).imp fun y H5 e5 py => ?_
          have es : sizeOf cell = ((pairs (cell / 8 % 4)).2, (pairs (cell / 8 % 4)).1) := by rw [sizeOf, if_pos hw, if_neg (of_decide_eq_false hb2)]
          rw [es]
          exact py
    · have hw := of_decide_eq_false hb
      refine q_when (b := decide (cell % 8 = 6)) (et_is (et_test (ev_op (ev_var rfl) ev_c (rv_eq (by rfl)))) (by rw [decide_eq_decide]; exact ⟨V.int.inj, congrArg _⟩)) (fun hb2 H4 e4 => ?_) (fun hb2 H4 e4 => ?_)
      · refine s_retP (ep_tup (ea_cons (ev_op ev_c (ev_op (ev_var rfl) ev_c (rv_I (by decide))) rv_I0) (ea_cons (ev_op ev_c (ev_op (ev_op (ev_var rfl) ev_c (rv_I ⟨by decide, by decide⟩)) ev_c (rv_I (by decide))) rv_I0) ea_nil))) fun v H5 e5 pv => k v H5 ((((e1.trans e2).trans e3).trans e4).trans e5) ?_
        rw [sizeOf, if_neg hw, if_pos (of_decide_eq_true hb2)]
        exact pv
      · have hw2 := of_decide_eq_false hb2
        refine q_when (b := decide (cell % 8 = 7)) (et_is (et_test (ev_op (ev_var rfl) ev_c (rv_eq (by rfl)))) (by rw [decide_eq_decide]; exact ⟨V.int.inj, congrArg _⟩)) (fun hb3 H5 e5 => ?_) (fun hb3 H5 e5 => ?_)
        · refine s_retP (ep_tup (ea_cons (ev_op ev_c (ev_op (ev_var rfl) ev_c (rv_I (by decide))) rv_I0) (ea_cons (ev_op ev_c (ev_op (ev_op (ev_var rfl) ev_c (rv_I ⟨by decide, by decide⟩)) ev_c (rv_I (by decide))) rv_I0) ea_nil))) fun v H6 e6 pv => k v H6 (((((e1.trans e2).trans e3).trans e4).trans e5).trans e6) ?_
          rw [sizeOf, if_neg hw, if_neg hw2, if_pos (of_decide_eq_true hb3)]
          exact pv
        · have hw3 := of_decide_eq_false hb3
          refine s_retP (ep_tup (ea_cons (ev_op ev_c (ev_op (ev_var rfl) ev_c (rv_I (by decide))) rv_I0) (ea_cons (ev_op ev_c (ev_op (ev_op (ev_var rfl) ev_c (rv_I ⟨by decide, by decide⟩)) ev_c (rv_I (by decide))) rv_I0) ea_nil))) fun v H6 e6 pv => k v H6 (((((e1.trans e2).trans e3).trans e4).trans e5).trans e6) ?_
          rw [sizeOf, if_neg hw, if_neg hw2, if_neg hw3]
          exact pv
theorem ep_size {σ : L2.St} {H : Hp} {ta : TA} {c : Int} {E : XK} (ha : EvA ta σ H [.int c]) : EvP (tCall spSize [] E ta) σ H (TupAt [.int (sizeOf c).1, .int (sizeOf c).2]) :=
  ep_call (eap_ea ha) fun vs H1 e ev Q E q => by
    subst ev
    exact ⟨c, rfl, fun v H2 e2 p => q v H2 e2 p⟩
theorem ev_sign {σ : L2.St} {H : Hp} {ta : TE} {tl : TA} {b : V} {w h : Int} {d : Door} {E : XK} (hb : Bd A.C H b w h) (hd : hasF w h d = true) (ho : Ev ta σ H b) (ha : EvAP tl σ H (fun vs H1 => ∃ q, vs = [q] ∧ IsDr H1 q d)) :
    Ev (tMeth A.C "sign" (spSign A.C) [] E ta tl) σ H (.str ".") := by
  obtain ⟨a, dx, dd, rfl, h1, h2⟩ := id hb
  exact ev_ep (ep_meth ho h1 (bf_no _ _ _ (by decide +kernel) (by decide +kernel) (by decide +kernel)) ha fun vs H1 e ⟨q, ev, hq⟩ Q E k => by
    subst ev
    exact ⟨_, q, w, h, d, rfl, hb.mono e, hq, hd, fun H2 e2 => k _ H2 e2 rfl⟩)
/-! ### quarters -/
def IsQ (q : Q3) (v : V) (H : Hp) : Prop := TupAt [.int (q.1 : Int), .int (q.2.1 : Int), .int (q.2.2 : Int)] v H
theorem has_west {w h c r : Nat} (hc : c < w) (hr : r < h) : hasF w h (("row" : Str), (c : Int) - 1, (r : Int)) = decide (0 < c) := by
  have e2 : decide (0 ≤ (r : Int)) = true := decide_eq_true (by omega)
  have e3 : decide ((r : Int) < h) = true := decide_eq_true (by omega)
  have e4 : decide ((c : Int) - 1 < w - 1) = true := decide_eq_true (by omega)
  have e5 : decide (0 ≤ (c : Int) - 1) = decide (0 < c) := decide_eq_decide.mpr (by omega)
  simp only [hasF, if_true, e2, e3, e4, e5, Bool.and_true]
theorem has_east {w h c r : Nat} (hc : c < w) (hr : r < h) : hasF w h (("row" : Str), (c : Int), (r : Int)) = decide (c + 1 < w) := by
  have e1 : decide (0 ≤ (c : Int)) = true := decide_eq_true (by omega)
  have e2 : decide (0 ≤ (r : Int)) = true := decide_eq_true (by omega)
  have e3 : decide ((r : Int) < h) = true := decide_eq_true (by omega)
  have e4 : decide ((c : Int) < w - 1) = decide (c + 1 < w) := decide_eq_decide.mpr (by omega)
  simp only [hasF, if_true, e1, e2, e3, e4, Bool.true_and, Bool.and_true]
theorem has_north {w h c r : Nat} (hc : c < w) (hr : r < h) : hasF w h (("column" : Str), (c : Int), (r : Int) - 1) = decide (0 < r) := by
  have e0 : ¬ (("column" : Str) = "row") := by decide +kernel
  have e1 : decide (0 ≤ (c : Int)) = true := decide_eq_true (by omega)
  have e3 : decide ((c : Int) < w) = true := decide_eq_true (by omega)
  have e4 : decide ((r : Int) - 1 < h - 1) = true := decide_eq_true (by omega)
  have e5 : decide (0 ≤ (r : Int) - 1) = decide (0 < r) := decide_eq_decide.mpr (by omega)
  simp only [hasF, if_neg e0, if_true, e1, e3, e4, e5, Bool.true_and, Bool.and_true]
theorem has_south {w h c r : Nat} (hc : c < w) (hr : r < h) : hasF w h (("column" : Str), (c : Int), (r : Int)) = decide (r + 1 < h) := by
  have e0 : ¬ (("column" : Str) = "row") := by decide +kernel
  have e1 : decide (0 ≤ (c : Int)) = true := decide_eq_true (by omega)
  have e2 : decide (0 ≤ (r : Int)) = true := decide_eq_true (by omega)
  have e3 : decide ((c : Int) < w) = true := decide_eq_true (by omega)
  have e4 : decide ((r : Int) < h - 1) = decide (r + 1 < h) := decide_eq_decide.mpr (by omega)
  simp only [hasF, if_neg e0, if_true, e1, e2, e3, e4, Bool.true_and, Bool.and_true]
def spLed2 (C : Addr) (f : Nat → Nat → Q3 → Q3) : Sp := fun vs H Q _ => ∃ (b q : V) (w h : Nat) (t : Q3), vs = [b, q] ∧ Bd C H b w h ∧ IsQ t q H ∧ Ok w h t ∧ ∀ v H2, Ex H H2 → IsQ (f w h t) v H2 → Q v H2
theorem sc_level : FnScope ["board", "quarter", "column", "row", "corner", "step", "door"] ["board", "quarter"] (defScope s_level) := ⟨rfl, rfl, rfl, by decide +kernel, rfl, by decide +kernel, by decide +kernel⟩
theorem ok_level (T : Txt K mg A) : FnOk P w K mg base CX0 3 A.level A.d_level ["board", "quarter"] (spLed2 A.C fun w _ q => lv w q) := by
  have SC := sc_level
  have G_has : FnOk P w K mg base CX0 1 A.has A.d_has ["self", "door"] (spHas A.C) := ok_has T
  have G_sign : FnOk P w K mg base CX0 2 A.sign A.d_sign ["self", "door"] (spSign A.C) := ok_sign T
  refine T.F_led_level.ok sc_level (fun vs H Q E h => ?_) (fun cdv A' outer s H vs Q E hr h => ?_)
  · obtain ⟨b, q, w, h, t, rfl, _⟩ := h
    rfl
  · obtain ⟨b, q, w, h, t, rfl, hb, hq, ⟨o1, o2, o3⟩, k⟩ := h
    obtain ⟨c, r, z⟩ := t
    dsimp only at o1 o2 o3
    refine ⟨_, (pss_cons (ps_asg (pv 1) (pg_tup (by rfl) (pgs_cons (pg_name (i := 2) SC.nd rfl (.inl rfl)) (pgs_cons (pg_name (i := 3) SC.nd rfl (.inl rfl)) (pgs_cons (pg_name (i := 4) SC.nd rfl (.inl rfl)) pgs_nil)))))
      (pss_cons (ps_set (i := 5) SC.nd rfl (.inl rfl) pe_int)
      (pss_cons (ps_set (i := 6) SC.nd rfl (.inl rfl) (pe_tup (pa_cons pe_str (pa_cons (pv 2) (pa_cons (pv 3) pa_nil)))))
      (pss_cut (ps_if (PW.pt (pw_or (pt_cmpR op_eq (pv 4) pe_int (nomark _)) (pw_or1 (pt_cmpR op_eq (pv 4) pe_int (nomark _))))) (pss_cons (ps_set (i := 5) SC.nd rfl (.inl rfl) (pe_un un_neg pe_int))
      (pss_one (ps_set (i := 6) SC.nd rfl (.inl rfl) (pe_tup (pa_cons pe_str (pa_cons (pe_op op_sub (pv 2) pe_int) (pa_cons (pv 3) pa_nil))))))) pss_nil)
      (pss_cons (ps_if (PW.pt (pw_or (pt_not (pt_val (pe_meth (pv 0) T.cl T.m_has G_has (hr.mono (by decide)) T.b_has .nil pass0 (pa_cons (pv 6) pa_nil)))) (pw_or1 (pt_cmpR op_eq (pe_meth (pv 0) T.cl T.m_sign G_sign (hr.mono (by decide)) T.b_sign .nil pass0 (pa_cons (pv 6) pa_nil)) pe_str (nomark _))))) (pss_one (ps_ret (pe_tup (pa_cons (pv 2) (pa_cons (pv 3) (pa_cons (pe_op op_sub pe_int (pv 4)) pa_nil)))))) pss_nil)
      (pss_cons (ps_if (pt_cmpR op_eq (pe_meth (pv 0) T.cl T.m_sign G_sign (hr.mono (by decide)) T.b_sign .nil pass0 (pa_cons (pv 6) pa_nil)) pe_str (nomark _)) (pss_one (ps_ret (pe_tup (pa_cons (pe_op op_add (pv 2) (pv 5)) (pa_cons (pv 3) (pa_cons (pe_ix ix_tup (pe_glob (v := .ref A.bes) (by rfl) T.g_BESIDE rfl) (pv 4) (fun _ _ => rfl)) pa_nil)))))) pss_nil)
      (pss_one (ps_ret (pe_tup (pa_cons (pe_op op_add (pv 2) (pv 5)) (pa_cons (pv 3) (pa_cons (pe_op op_mod (pe_op op_add (pv 4) pe_int) pe_int) pa_nil)))))))))))), ?_⟩
    obtain ⟨a, rfl, ha⟩ := id hq
    refine q_asgG (ep_ev (ev_var rfl)) ?_
    rintro v H1 e1 rfl
    refine g_three (st_of (e1 _ _ ha)) ?_
    refine q_asg ev_c fun H2 e2 => ?_
    refine q_asgP (ep_tup (ea_cons ev_c (ea_cons (ev_var rfl) (ea_cons (ev_var rfl) ea_nil)))) fun v H3 e3 pv => ?_
    obtain ⟨d, rfl, hd⟩ := pv
    refine ⟨fun σ' H' => ∃ (t : Addr) (s dc : Int), σ' = [some b, some (.ref a), some (.int (c : Int)), some (.int (r : Int)), some (.int (z : Int)), some (.int s), some (.ref t)] ∧ Ex H H' ∧ H' t = some (.tup [.str "row", .int dc, .int (r : Int)]) ∧ ((z = 0 ∨ z = 3) ∧ s = -1 ∧ dc = (c : Int) - 1 ∨ ¬ (z = 0 ∨ z = 3) ∧ s = 1 ∧ dc = (c : Int)), ?_, ?_⟩
    · refine s_if (b := decide (z = 0 ∨ z = 3)) (et_is (et_or (et_test (ev_op (ev_var rfl) ev_c (rv_eq (by rfl)))) fun _ => et_test (ev_op (ev_var rfl) ev_c (rv_eq (by rfl)))) ?_) (fun hz H4 e4 => ?_) (fun hz H4 e4 => ?_)
      · rw [Bool.eq_iff_iff]
        simp only [Bool.or_eq_true, decide_eq_true_eq, V.int.injEq]
        omega
      · refine q_asg (ev_un ev_c ru_neg) fun H5 e5 => ?_
        refine s_asgP (ep_tup (ea_cons ev_c (ea_cons (ev_op (ev_var rfl) ev_c rv_I0) (ea_cons (ev_var rfl) ea_nil)))) fun v H6 e6 pv => ?_
        obtain ⟨d', rfl, hd'⟩ := pv
        exact ⟨d', _, _, rfl, ((((e1.trans e2).trans e3).trans e4).trans e5).trans e6, hd', .inl ⟨of_decide_eq_true hz, rfl, rfl⟩⟩
      · exact ⟨d, _, _, rfl, ((e1.trans e2).trans e3).trans e4, e4 _ _ hd, .inr ⟨of_decide_eq_false hz, rfl, rfl⟩⟩
    · rintro σ' H4 ⟨t, s, dc, rfl, e4, ht, hz⟩
      have hb4 := hb.mono e4
      have hd4 : IsDr H4 (.ref t) (("row" : Str), dc, (r : Int)) := ⟨t, rfl, ht⟩
      have arg : EvAP (tCons (tVar 6) tNil) [some b, some (.ref a), some (.int (c : Int)), some (.int (r : Int)), some (.int (z : Int)), some (.int s), some (.ref t)] H4 (fun vs H1 => ∃ q, vs = [q] ∧ IsDr H1 q (("row" : Str), dc, (r : Int))) := (eap_ea (ea_cons (ev_var rfl) ea_nil)).imp fun vs H1 e ev => ⟨_, ev, hd4.mono e⟩
      cases hh : hasF w h (("row" : Str), dc, (r : Int)) with
      | false =>
        refine q_when (b := true) (et_or (a := true) (b := true) (et_is (et_not (et_B (ev_has hb4 (ev_var rfl) arg))) (by rw [hh]; rfl)) fun z => nomatch z) (fun _ H5 e5 => ?_) (fun z => nomatch z)
        refine s_retP (ep_tup (ea_cons (ev_var rfl) (ea_cons (ev_var rfl) (ea_cons (ev_op ev_c (ev_var rfl) rv_I0) ea_nil)))) fun v H6 e6 pv => k v H6 ((e4.trans e5).trans e6) ?_
        have e7 : lv w (c, r, z) = (c, r, 3 - z) := by
          rcases hz with ⟨hz, _, hdc⟩ | ⟨hz, _, hdc⟩
          · rw [hdc, has_west o1 o2] at hh
            unfold lv
            dsimp only
            rw [if_pos hz, if_neg (of_decide_eq_false hh)]
          · rw [hdc, has_east o1 o2] at hh
            unfold lv
            dsimp only
            rw [if_neg hz, if_neg (of_decide_eq_false hh)]
        show IsQ (lv w (c, r, z)) v H6
        rw [e7]
        have e8 : ((3 - z : Nat) : Int) = 3 - (z : Int) := by omega
        show TupAt [.int (c : Int), .int (r : Int), .int ((3 - z : Nat) : Int)] v H6
        rw [e8]
        exact pv
      | true =>
        refine q_when (b := false) (et_or (a := false) (b := false) (et_is (et_not (et_B (ev_has hb4 (ev_var rfl) arg))) (by rw [hh]; rfl)) fun _ => et_is (et_test (ev_op (ev_sign hb4 hh (ev_var rfl) arg) ev_c (rv_eq (by rfl)))) (by decide +kernel)) (fun z => nomatch z) (fun _ H5 e5 => ?_)
        refine q_when (b := false) (et_is (et_test (ev_op (ev_sign (hb4.mono e5) hh (ev_var rfl) ((eap_ea (ea_cons (ev_var rfl) ea_nil)).imp fun vs H1 e ev => ⟨_, ev, (hd4.mono e5).mono e⟩)) ev_c (rv_eq (by rfl)))) (by decide +kernel)) (fun z => nomatch z) (fun _ H6 e6 => ?_)
        refine s_retP (ep_tup (ea_cons (ev_op (ev_var rfl) (ev_var rfl) rv_I0) (ea_cons (ev_var rfl) (ea_cons (ev_op (ev_op (ev_var rfl) ev_c rv_I0) ev_c (rv_I (by decide))) ea_nil)))) fun v H7 e7 pv => k v H7 (((e4.trans e5).trans e6).trans e7) ?_
        have e9 : (((z + 2) % 4 : Nat) : Int) = ((z : Int) + 2) % 4 := by omega
        rcases hz with ⟨hz, hs, hdc⟩ | ⟨hz, hs, hdc⟩
        · rw [hdc, has_west o1 o2] at hh
          have pos := of_decide_eq_true hh
          have e8 : lv w (c, r, z) = (c - 1, r, (z + 2) % 4) := by
            unfold lv
            dsimp only
            rw [if_pos hz, if_pos pos]
          show IsQ (lv w (c, r, z)) v H7
          rw [e8]
          show TupAt [.int ((c - 1 : Nat) : Int), .int (r : Int), .int (((z + 2) % 4 : Nat) : Int)] v H7
          rw [e9, show ((c - 1 : Nat) : Int) = (c : Int) + s by omega]
          exact pv
        · rw [hdc, has_east o1 o2] at hh
          have pos := of_decide_eq_true hh
          have e8 : lv w (c, r, z) = (c + 1, r, (z + 2) % 4) := by
            unfold lv
            dsimp only
            rw [if_neg hz, if_pos pos]
          show IsQ (lv w (c, r, z)) v H7
          rw [e8]
          show TupAt [.int ((c + 1 : Nat) : Int), .int (r : Int), .int (((z + 2) % 4 : Nat) : Int)] v H7
          rw [e9, show ((c + 1 : Nat) : Int) = (c : Int) + s by omega]
          exact pv
theorem bes_at {z : Nat} (h : z < 4) : atI [V.int 1, V.int 0, V.int 3, V.int 2] (z : Int) = some (.int (bes z : Nat)) := by
  have c : z = 0 ∨ z = 1 ∨ z = 2 ∨ z = 3 := by omega
  rcases c with rfl | rfl | rfl | rfl <;> exact atI_nat rfl
theorem sc_upright : FnScope ["board", "quarter", "column", "row", "corner", "step", "door"] ["board", "quarter"] (defScope s_upright) := ⟨rfl, rfl, rfl, by decide +kernel, rfl, by decide +kernel, by decide +kernel⟩
theorem ok_upright (T : Txt K mg A) : FnOk P w K mg base CX0 3 A.upright A.d_upright ["board", "quarter"] (spLed2 A.C fun _ h q => up h q) := by
  have SC := sc_upright
  have G_has : FnOk P w K mg base CX0 1 A.has A.d_has ["self", "door"] (spHas A.C) := ok_has T
  have G_sign : FnOk P w K mg base CX0 2 A.sign A.d_sign ["self", "door"] (spSign A.C) := ok_sign T
  refine T.F_led_upright.ok sc_upright (fun vs H Q E h => ?_) (fun cdv A' outer s H vs Q E hr h => ?_)
  · obtain ⟨b, q, w, h, t, rfl, _⟩ := h
    rfl
  · obtain ⟨b, q, w, h, t, rfl, hb, hq, ⟨o1, o2, o3⟩, k⟩ := h
    obtain ⟨c, r, z⟩ := t
    dsimp only at o1 o2 o3
    refine ⟨_, (pss_cons (ps_asg (pv 1) (pg_tup (by rfl) (pgs_cons (pg_name (i := 2) SC.nd rfl (.inl rfl)) (pgs_cons (pg_name (i := 3) SC.nd rfl (.inl rfl)) (pgs_cons (pg_name (i := 4) SC.nd rfl (.inl rfl)) pgs_nil)))))
      (pss_cons (ps_set (i := 5) SC.nd rfl (.inl rfl) pe_int)
      (pss_cons (ps_set (i := 6) SC.nd rfl (.inl rfl) (pe_tup (pa_cons pe_str (pa_cons (pv 2) (pa_cons (pv 3) pa_nil)))))
      (pss_cut (ps_if (pt_cmpR op_lt (pv 4) pe_int (nomark _)) (pss_cons (ps_set (i := 5) SC.nd rfl (.inl rfl) (pe_un un_neg pe_int))
      (pss_one (ps_set (i := 6) SC.nd rfl (.inl rfl) (pe_tup (pa_cons pe_str (pa_cons (pv 2) (pa_cons (pe_op op_sub (pv 3) pe_int) pa_nil))))))) pss_nil)
      (pss_cons (ps_if (PW.pt (pw_or (pt_not (pt_val (pe_meth (pv 0) T.cl T.m_has G_has (hr.mono (by decide)) T.b_has .nil pass0 (pa_cons (pv 6) pa_nil)))) (pw_or1 (pt_cmpR op_eq (pe_meth (pv 0) T.cl T.m_sign G_sign (hr.mono (by decide)) T.b_sign .nil pass0 (pa_cons (pv 6) pa_nil)) pe_str (nomark _))))) (pss_one (ps_ret (pe_tup (pa_cons (pv 2) (pa_cons (pv 3) (pa_cons (pe_ix ix_tup (pe_glob (v := .ref A.bes) (by rfl) T.g_BESIDE rfl) (pv 4) (fun _ _ => rfl)) pa_nil)))))) pss_nil)
      (pss_cons (ps_if (pt_cmpR op_eq (pe_meth (pv 0) T.cl T.m_sign G_sign (hr.mono (by decide)) T.b_sign .nil pass0 (pa_cons (pv 6) pa_nil)) pe_str (nomark _)) (pss_one (ps_ret (pe_tup (pa_cons (pv 2) (pa_cons (pe_op op_add (pv 3) (pv 5)) (pa_cons (pe_op op_sub pe_int (pv 4)) pa_nil)))))) pss_nil)
      (pss_one (ps_ret (pe_tup (pa_cons (pv 2) (pa_cons (pe_op op_add (pv 3) (pv 5)) (pa_cons (pe_op op_mod (pe_op op_add (pv 4) pe_int) pe_int) pa_nil)))))))))))), ?_⟩
    obtain ⟨a, rfl, ha⟩ := id hq
    refine q_asgG (ep_ev (ev_var rfl)) ?_
    rintro v H1 e1 rfl
    refine g_three (st_of (e1 _ _ ha)) ?_
    refine q_asg ev_c fun H2 e2 => ?_
    refine q_asgP (ep_tup (ea_cons ev_c (ea_cons (ev_var rfl) (ea_cons (ev_var rfl) ea_nil)))) fun v H3 e3 pv => ?_
    obtain ⟨d, rfl, hd⟩ := pv
    refine ⟨fun σ' H' => ∃ (t : Addr) (s dr : Int), σ' = [some b, some (.ref a), some (.int (c : Int)), some (.int (r : Int)), some (.int (z : Int)), some (.int s), some (.ref t)] ∧ Ex H H' ∧ H' t = some (.tup [.str "column", .int (c : Int), .int dr]) ∧ (z < 2 ∧ s = -1 ∧ dr = (r : Int) - 1 ∨ ¬ z < 2 ∧ s = 1 ∧ dr = (r : Int)), ?_, ?_⟩
    · refine s_if (b := decide (z < 2)) (et_is (et_test (ev_op (ev_var rfl) ev_c rv_I0)) (by rw [Bool.eq_iff_iff]; simp only [decide_eq_true_eq]; omega)) (fun hz H4 e4 => ?_) (fun hz H4 e4 => ?_)
      · refine q_asg (ev_un ev_c ru_neg) fun H5 e5 => ?_
        refine s_asgP (ep_tup (ea_cons ev_c (ea_cons (ev_var rfl) (ea_cons (ev_op (ev_var rfl) ev_c rv_I0) ea_nil)))) fun v H6 e6 pv => ?_
        obtain ⟨d', rfl, hd'⟩ := pv
        exact ⟨d', _, _, rfl, ((((e1.trans e2).trans e3).trans e4).trans e5).trans e6, hd', .inl ⟨of_decide_eq_true hz, rfl, rfl⟩⟩
      · exact ⟨d, _, _, rfl, ((e1.trans e2).trans e3).trans e4, e4 _ _ hd, .inr ⟨of_decide_eq_false hz, rfl, rfl⟩⟩
    · rintro σ' H4 ⟨t, s, dr, rfl, e4, ht, hz⟩
      have hb4 := hb.mono e4
      have hd4 : IsDr H4 (.ref t) (("column" : Str), (c : Int), dr) := ⟨t, rfl, ht⟩
      have arg : EvAP (tCons (tVar 6) tNil) [some b, some (.ref a), some (.int (c : Int)), some (.int (r : Int)), some (.int (z : Int)), some (.int s), some (.ref t)] H4 (fun vs H1 => ∃ q, vs = [q] ∧ IsDr H1 q (("column" : Str), (c : Int), dr)) := (eap_ea (ea_cons (ev_var rfl) ea_nil)).imp fun vs H1 e ev => ⟨_, ev, hd4.mono e⟩
      cases hh : hasF w h (("column" : Str), (c : Int), dr) with
      | false =>
        refine q_when (b := true) (et_or (a := true) (b := true) (et_is (et_not (et_B (ev_has hb4 (ev_var rfl) arg))) (by rw [hh]; rfl)) fun z => nomatch z) (fun _ H5 e5 => ?_) (fun z => nomatch z)
        refine s_retP (ep_tup (ea_cons (ev_var rfl) (ea_cons (ev_var rfl) (ea_cons (ev_op ev_c (ev_var rfl) (rv_ixT (T.t_BESIDE _) (bes_at o3))) ea_nil)))) fun v H6 e6 pv => k v H6 ((e4.trans e5).trans e6) ?_
        have e7 : up h (c, r, z) = (c, r, bes z) := by
          rcases hz with ⟨hz, _, hdc⟩ | ⟨hz, _, hdc⟩
          · rw [hdc, has_north o1 o2] at hh
            unfold up
            dsimp only
            rw [if_pos hz, if_neg (of_decide_eq_false hh)]
          · rw [hdc, has_south o1 o2] at hh
            unfold up
            dsimp only
            rw [if_neg hz, if_neg (of_decide_eq_false hh)]
        show IsQ (up h (c, r, z)) v H6
        rw [e7]
        exact pv
      | true =>
        refine q_when (b := false) (et_or (a := false) (b := false) (et_is (et_not (et_B (ev_has hb4 (ev_var rfl) arg))) (by rw [hh]; rfl)) fun _ => et_is (et_test (ev_op (ev_sign hb4 hh (ev_var rfl) arg) ev_c (rv_eq (by rfl)))) (by decide +kernel)) (fun z => nomatch z) (fun _ H5 e5 => ?_)
        refine q_when (b := false) (et_is (et_test (ev_op (ev_sign (hb4.mono e5) hh (ev_var rfl) ((eap_ea (ea_cons (ev_var rfl) ea_nil)).imp fun vs H1 e ev => ⟨_, ev, (hd4.mono e5).mono e⟩)) ev_c (rv_eq (by rfl)))) (by decide +kernel)) (fun z => nomatch z) (fun _ H6 e6 => ?_)
        refine s_retP (ep_tup (ea_cons (ev_var rfl) (ea_cons (ev_op (ev_var rfl) (ev_var rfl) rv_I0) (ea_cons (ev_op (ev_op (ev_var rfl) ev_c rv_I0) ev_c (rv_I (by decide))) ea_nil)))) fun v H7 e7 pv => k v H7 (((e4.trans e5).trans e6).trans e7) ?_
        have e9 : (((z + 2) % 4 : Nat) : Int) = ((z : Int) + 2) % 4 := by omega
        show IsQ (up h (c, r, z)) v H7
        rcases hz with ⟨hz, hs, hdc⟩ | ⟨hz, hs, hdc⟩
        · rw [hdc, has_north o1 o2] at hh
          have pos := of_decide_eq_true hh
          have e8 : up h (c, r, z) = (c, r - 1, (z + 2) % 4) := by
            unfold up
            dsimp only
            rw [if_pos hz, if_pos pos]
          rw [e8]
          show TupAt [.int (c : Int), .int ((r - 1 : Nat) : Int), .int (((z + 2) % 4 : Nat) : Int)] v H7
          rw [e9, show ((r - 1 : Nat) : Int) = (r : Int) + s by omega]
          exact pv
        · rw [hdc, has_south o1 o2] at hh
          have pos := of_decide_eq_true hh
          have e8 : up h (c, r, z) = (c, r + 1, (z + 2) % 4) := by
            unfold up
            dsimp only
            rw [if_neg hz, if_pos pos]
          rw [e8]
          show TupAt [.int (c : Int), .int ((r + 1 : Nat) : Int), .int (((z + 2) % 4 : Nat) : Int)] v H7
          rw [e9, show ((r + 1 : Nat) : Int) = (r : Int) + s by omega]
          exact pv
/-! ### led, line_from -/
def spLed (C : Addr) : Sp := fun vs H Q _ => ∃ (b q : V) (w h : Nat) (t : Q3) (l : Bool), vs = [b, q, .bl l] ∧ Bd C H b w h ∧ IsQ t q H ∧ Ok w h t ∧ ∀ v H2, Ex H H2 → IsQ (nxt w h l t) v H2 → Q v H2
theorem sc_led : FnScope ["board", "quarter", "level"] ["board", "quarter", "level"] (defScope s_led) := ⟨rfl, rfl, rfl, by decide +kernel, rfl, by decide +kernel, by decide +kernel⟩
theorem ok_led (T : Txt K mg A) : FnOk P w K mg base CX0 4 A.led A.d_led ["board", "quarter", "level"] (spLed A.C) := by
  have SC := sc_led
  have G_led_level : FnOk P w K mg base CX0 3 A.level A.d_level ["board", "quarter"] (spLed2 A.C fun w _ q => lv w q) := ok_level T
  have G_led_upright : FnOk P w K mg base CX0 3 A.upright A.d_upright ["board", "quarter"] (spLed2 A.C fun _ h q => up h q) := ok_upright T
  refine T.F_led.ok sc_led (fun vs H Q E h => ?_) (fun cdv A' outer s H vs Q E hr h => ?_)
  · obtain ⟨b, q, w, h, t, l, rfl, _⟩ := h
    rfl
  · obtain ⟨b, q, w, h, t, l, rfl, hb, hq, ok, k⟩ := h
    refine ⟨_, (pss_cons (ps_if (pt_val (pv 2)) (pss_one (ps_ret (pe_call G_led_level (hr.mono (by decide)) (by rfl) T.g_led_level T.F_led_level.kp T.b_led_level .nil pass0 (pa_cons (pv 0) (pa_cons (pv 1) pa_nil))))) pss_nil)
      (pss_one (ps_ret (pe_call G_led_upright (hr.mono (by decide)) (by rfl) T.g_led_upright T.F_led_upright.kp T.b_led_upright .nil pass0 (pa_cons (pv 0) (pa_cons (pv 1) pa_nil)))))), ?_⟩
    refine q_when (b := l) (et_B (ev_var rfl)) (fun hl H2 e2 => ?_) (fun hl H2 e2 => ?_)
    · refine s_retP (P := IsQ (lv w t)) (ep_call (eap_ea (ea_cons (ev_var rfl) (ea_cons (ev_var rfl) ea_nil))) fun vs H3 e3 ev Q E kk => ?_) fun v H3 e3 pv => k v H3 (e2.trans e3) ?_
      · subst ev
        exact ⟨b, q, w, h, t, rfl, hb.mono (e2.trans e3), hq.mono (e2.trans e3), ok, fun v H4 e4 p => kk v H4 e4 p⟩
      · rw [hl]
        exact pv
    · refine s_retP (P := IsQ (up h t)) (ep_call (eap_ea (ea_cons (ev_var rfl) (ea_cons (ev_var rfl) ea_nil))) fun vs H3 e3 ev Q E kk => ?_) fun v H3 e3 pv => k v H3 (e2.trans e3) ?_
      · subst ev
        exact ⟨b, q, w, h, t, rfl, hb.mono (e2.trans e3), hq.mono (e2.trans e3), ok, fun v H4 e4 p => kk v H4 e4 p⟩
      · rw [hl]
        exact pv
def qD (q : Q3) : PyData := .tuple [.int (q.1 : Int), .int (q.2.1 : Int), .int (q.2.2 : Int)]
theorem dp_q {H : Hp} {q : Q3} {v : V} (h : IsQ q v H) : Dp K H v (qD q) := by
  obtain ⟨a, rfl, ha⟩ := h
  exact .tup (st_of ha) (.cons (.int _) (.cons (.int _) (.cons (.int _) .nil)))
theorem shaped_q (q : Q3) : SeqAt.shaped (qD q) = true := rfl
theorem eqv_q (p q : Q3) : PyData.eqv (qD p) (qD q) = decide (p = q) := by
  obtain ⟨a, b, c⟩ := p
  obtain ⟨a', b', c'⟩ := q
  simp only [qD, PyData.eqv, PyData.eqvAll, Bool.and_true]
  rw [Bool.eq_iff_iff]
  simp only [Bool.and_eq_true, beq_iff_eq, decide_eq_true_eq, Prod.mk.injEq]
  omega
/-- the items are these quarters -/
abbrev Qs (H : Hp) (xs : List V) (qs : List Q3) : Prop := Paired (fun x q => IsQ q x H) xs qs
theorem Qs.mono {H H' : Hp} (e : ExT H H') {xs : List V} {qs : List Q3} (h : Qs H xs qs) : Qs H' xs qs := Paired.mapP h fun _ _ ⟨a, h1, h2⟩ => ⟨a, h1, e _ _ h2⟩
theorem Qs.snoc {H : Hp} : ∀ {xs : List V} {qs : List Q3} {x : V} {q : Q3}, Qs H xs qs → IsQ q x H → Qs H (xs ++ [x]) (qs ++ [q])
  | _, _, _, _, .nil, h => .cons h .nil
  | _, _, _, _, .cons a r, h => .cons a (Qs.snoc r h)
theorem Qs.get {H : Hp} : ∀ {xs : List V} {qs : List Q3} {i : Nat} {x : V}, Qs H xs qs → xs[i]? = some x → ∃ q, qs[i]? = some q ∧ IsQ q x H
  | _, _, _, _, .nil, e => by simp at e
  | _, _, 0, _, .cons r _, e => by simp at e; subst e; exact ⟨_, rfl, r⟩
  | _, _, i + 1, x, .cons _ t, e => by
    obtain ⟨u, h1, h2⟩ := Qs.get (i := i) (x := x) t (by simpa using e)
    exact ⟨u, by simpa using h1, h2⟩
def spFrom (C : Addr) : Sp := fun vs H Q _ => ∃ (b q : V) (w h : Nat) (t : Q3) (L : List Q3), vs = [b, q] ∧ Bd C H b w h ∧ w ≤ 12 ∧ h ≤ 12 ∧ IsQ t q H ∧ Ok w h t ∧ go w h t (4 * w * h + 1) (lv w t) false [t] = some L ∧
  ∀ p xs H2, Ex H H2 → H p = none → H2 p = some (.lst xs) → Qs H2 xs L → Q (.ref p) H2
theorem ep_led {σ : L2.St} {H : Hp} {ta : TA} {b q : V} {w h : Nat} {t : Q3} {l : Bool} {E : XK} (ha : EvA ta σ H [b, q, .bl l]) (hb : Bd A.C H b w h) (hq : IsQ t q H) (ok : Ok w h t) : EvP (tCall (spLed A.C) [] E ta) σ H (IsQ (nxt w h l t)) :=
  ep_call (eap_ea ha) fun vs H1 e ev Q E k => by
    subst ev
    exact ⟨b, q, w, h, t, l, rfl, hb.mono e, hq.mono e, ok, fun v H2 e2 p => k v H2 e2 p⟩
theorem sc_from : FnScope ["board", "first", "line", "here", "level"] ["board", "first"] (defScope s_from) := ⟨rfl, rfl, rfl, by decide +kernel, rfl, by decide +kernel, by decide +kernel⟩
theorem ok_from (T : Txt K mg A) : FnOk P w K mg base CX0 5 A.lfrom A.d_lfrom ["board", "first"] (spFrom A.C) := by
  have SC := sc_from
  have G_led : FnOk P w K mg base CX0 4 A.led A.d_led ["board", "quarter", "level"] (spLed A.C) := ok_led T
  refine T.F_line_from.ok sc_from (fun vs H Q E h => ?_) (fun cdv A' outer s H vs Q E hr h => ?_)
  · obtain ⟨b, q, w, h, t, L, rfl, _⟩ := h
    rfl
  · obtain ⟨b, q, w, h, t, L, rfl, hb, w12, h12, hq, ok, hgo, k⟩ := h
    refine ⟨_, (pss_cons (ps_set (i := 2) SC.nd rfl (.inl rfl) (pe_lst (pa_cons (pv 1) pa_nil)))
      (pss_cons (ps_set (i := 3) SC.nd rfl (.inl rfl) (pe_call G_led (hr.mono (by decide)) (by rfl) T.g_led T.F_led.kp T.b_led .nil pass0 (pa_cons (pv 0) (pa_cons (pv 1) (pa_cons pe_bl pa_nil)))))
      (pss_cons (ps_set (i := 4) SC.nd rfl (.inl rfl) pe_bl)
      (pss_cons (ps_while PassesOwn.never (pt_cmpR (op_neD hr.units) (pv 3) (pv 1) (nomark _))
      (pss_cons (ps_expr (pe_bm PySem.F.plainAttrs_list PySem.F.slot_list_append PySem.F.type_list_append mt_append (pv 2) (pa_cons (pv 3) pa_nil)))
      (pss_cons (ps_set (i := 3) SC.nd rfl (.inl rfl) (pe_call G_led (hr.mono (by decide)) (by rfl) T.g_led T.F_led.kp T.b_led .nil pass0 (pa_cons (pv 0) (pa_cons (pv 3) (pa_cons (pv 4) pa_nil)))))
      (pss_one (ps_set (i := 4) SC.nd rfl (.inl rfl) (pe_not (pv 4)))))))
      (pss_one (ps_ret (pv 2))))))), ?_⟩
    refine q_asgL (el_lst (ea_cons (ev_var rfl) ea_nil) (by simp)) fun p H1 hp e1 hl => ?_
    refine q_asgP (ep_led (l := true) (ea_cons (ev_var rfl) (ea_cons (ev_var rfl) (ea_cons ev_c ea_nil))) (hb.mono e1) (hq.mono e1) ok) fun v H2 e2 pv => ?_
    refine q_asg ev_c fun H3 e3 => ?_
    have hwh : w * h ≤ 144 := Nat.le_trans (Nat.mul_le_mul w12 h12) (by decide)
    have hwh4 : 4 * w * h ≤ 576 := by rw [Nat.mul_assoc]; omega
    refine q_while (fun m σ' H' => ∃ (vh : V) (here : Q3) (l : Bool) (xs : List V) (qs : List Q3), σ' = [some b, some q, some (.ref p), some vh, some (.bl l)] ∧ Ex H H' ∧ H' p = some (.lst xs) ∧ Qs H' xs qs ∧ IsQ here vh H' ∧ Ok w h here ∧ xs.length + m ≤ 600 ∧ go w h t m here l qs.reverse = some L)
      (4 * w * h + 1) ⟨v, nxt w h true t, false, [q], [t], rfl, (e1.trans e2).trans e3, e3 _ _ (e2 _ _ hl), .cons (hq.mono ((e1.trans e2).trans e3)) .nil, pv.mono e3, lv_ok ok, by simp; omega, hgo⟩ ?_
    rintro m σ' H' ⟨vh, here, l, xs, qs, rfl, e4, hl4, hqs, hh, okh, hm, hg⟩
    cases m with
    | zero => simp [go] at hg
    | succ m =>
      unfold go at hg
      refine ⟨!decide (here = t), et_test (ev_op (ev_var rfl) (ev_var rfl) (rv_val fun H5 e5 Q q' => ⟨qD here, qD t, dp_q (hh.mono e5), dp_q (hq.mono (e4.trans e5)), shaped_q _, shaped_q _, by rw [eqv_q]; exact q'⟩)), fun hne H5 e5 => ?_, fun heq H5 e5 => ?_⟩
      · have ne : ¬ here = t := by simpa using hne
        rw [if_neg ne] at hg
        refine ⟨_, fun σ2 H2 n => ⟨m, Nat.lt_succ_self _, n⟩, ?_⟩
        refine q_app (e5 _ _ hl4) (ev_var rfl) (ev_var rfl) (by omega) fun H6 e6 => ?_
        have hp6 := e6 _ _ (e5 _ _ hl4)
        have e7 : Ex H (upd H6 p (.lst (xs ++ [vh]))) := ((e4.trans e5).trans e6).mut hp
        have hh7 : IsQ here vh (upd H6 p (.lst (xs ++ [vh]))) := by
          obtain ⟨a, h1, h2⟩ := hh
          exact ⟨a, h1, ((ExT.of (e5.trans e6)).trans (ExT.upd hp6)) _ _ h2⟩
        refine q_asgP (ep_led (l := l) (ea_cons (ev_var rfl) (ea_cons (ev_var rfl) (ea_cons (ev_var rfl) ea_nil))) (hb.mono e7) hh7 okh) fun v2 H8 e8 pv2 => ?_
        refine s_asg (ev_notV (ev_var rfl)) fun H9 e9 => ?_
        refine ⟨v2, nxt w h l here, !l, xs ++ [vh], qs ++ [here], rfl, (e7.trans e8).trans e9, e9 _ _ (e8 _ _ upd_same), ?_, pv2.mono e9, nxt_ok okh, ?_, ?_⟩
        · exact Qs.snoc (hqs.mono (((ExT.of (e5.trans e6)).trans (ExT.upd hp6)).trans (ExT.of (e8.trans e9)))) (hh7.mono (e8.trans e9))
        · rw [List.length_append]
          simp
          omega
        · rw [List.reverse_append]
          exact hg
      · have eq : here = t := by simpa using heq
        rw [if_pos eq, List.reverse_reverse] at hg
        cases hg
        exact s_ret (ev_var rfl) fun H6 e6 => k p xs H6 ((e4.trans e5).trans e6) hp (e6 _ _ (e5 _ _ hl4)) (hqs.mono (ExT.of (e5.trans e6)))
/-! ### lines -/
def keyQ (q : Q3) : List Key := [.inl (q.1 : Int), .inl (q.2.1 : Int), .inl (q.2.2 : Int)]
theorem keyQ_inj {p q : Q3} (e : keyQ p = keyQ q) : p = q := by
  obtain ⟨a, b, c⟩ := p
  obtain ⟨a', b', c'⟩ := q
  simp only [keyQ, List.cons.injEq, Sum.inl.injEq, and_true] at e
  have e1 : a = a' := by omega
  have e2 : b = b' := by omega
  have e3 : c = c' := by omega
  rw [e1, e2, e3]
theorem et_dnotin {σ : L2.St} {H : Hp} {ty td : TE} {a : Addr} {kvs : List (List Key × V)} {k : List Key} (hy : EvP ty σ H (TupAt (k.map kV))) (hd : Ev td σ H (.ref a)) (ha : H a = some (.dT kvs)) : EvT (tB (tDNotIn ty td)) σ H (!(valV kvs k).isSome) := fun H1 e Q q =>
  hy H1 e _ fun v H2 e2 ⟨b, ev, hb⟩ => hd H2 (e.trans e2) _ fun H3 e3 => ⟨a, valV kvs k, rfl, by
    subst ev
    exact DGet.t (((e.trans e2).trans e3) _ _ ha) (e3 _ _ hb), _, rfl, q H3 (e2.trans e3)⟩
/-- the items are lists of these lengths, none of them the one at p -/
def LenAt (p : Addr) (H : Hp) (x : V) (n : Nat) : Prop := ∃ a ys, x = .ref a ∧ a ≠ p ∧ H a = some (.lst ys) ∧ ys.length = n
abbrev Lens (p : Addr) (H : Hp) (xs : List V) (ns : List Nat) : Prop := Paired (LenAt p H) xs ns
theorem Lens.to {p : Addr} {H H' : Hp} {xs : List V} {ns : List Nat} (h : Lens p H xs ns) (k : ∀ a ys, a ≠ p → H a = some (.lst ys) → H' a = some (.lst ys)) : Lens p H' xs ns :=
  Paired.mapP h fun _ _ ⟨a, ys, h1, h2, h3, h4⟩ => ⟨a, ys, h1, h2, k a ys h2 h3, h4⟩
theorem Lens.snoc {p : Addr} {H : Hp} : ∀ {xs : List V} {ns : List Nat} {x : V} {n : Nat}, Lens p H xs ns → LenAt p H x n → Lens p H (xs ++ [x]) (ns ++ [n])
  | _, _, _, _, .nil, h => .cons h .nil
  | _, _, _, _, .cons a r, h => .cons a (Lens.snoc r h)
theorem Lens.get {p : Addr} {H : Hp} : ∀ {xs : List V} {ns : List Nat} {i : Nat} {x : V}, Lens p H xs ns → xs[i]? = some x → ∃ n, ns[i]? = some n ∧ LenAt p H x n
  | _, _, _, _, .nil, e => by simp at e
  | _, _, 0, _, .cons r _, e => by simp at e; subst e; exact ⟨_, rfl, r⟩
  | _, _, i + 1, x, .cons _ t, e => by
    obtain ⟨u, h1, h2⟩ := Lens.get (i := i) (x := x) t (by simpa using e)
    exact ⟨u, by simpa using h1, h2⟩
/-- what stands between two turns: found at p, seen at d, so many quarters asked -/
structure Turn (w h : Nat) (H0 : Hp) (b : V) (p d : Addr) (n : Nat) (s : S) (H' : Hp) : Prop where
  ex : Ex H0 H'
  fnd : ∃ xs, H' p = some (.lst xs) ∧ Lens p H' xs s.2.reverse
  sn : ∃ kvs : List (List Key × V), H' d = some (.dT kvs) ∧ kvs.length ≤ 700 * n ∧ ∀ q, Ok w h q → (valV kvs (keyQ q)).isSome = s.1.testBit (code q)
  few : s.2.length ≤ n
theorem Turn.mono {w h : Nat} {H0 : Hp} {b : V} {p d : Addr} {n m : Nat} {s : S} {H' H2 : Hp} (t : Turn w h H0 b p d n s H') (e : Ex H' H2) (hm : n ≤ m) : Turn w h H0 b p d m s H2 := by
  obtain ⟨e0, ⟨xs, h1, h2⟩, ⟨kvs, h3, h4, h5⟩, h6⟩ := t
  exact ⟨e0.trans e, ⟨xs, e _ _ h1, h2.to fun a ys _ z => e _ _ z⟩, ⟨kvs, e _ _ h3, by omega, h5⟩, by omega⟩
def spLines (C : Addr) : Sp := fun vs H Q _ => ∃ (b : V) (w h m : Nat) (ns : List Nat), vs = [b] ∧ Bd C H b w h ∧ w ≤ 12 ∧ h ≤ 12 ∧ stR w h h = some (m, ns) ∧
  ∀ p xs H2, Ex H H2 → H2 p = some (.lst xs) → Lens p H2 xs ns.reverse → Q (.ref p) H2
theorem sc_lines : FnScope ["board", "found", "seen", "row", "column", "corner", "line", "quarter"] ["board"] (defScope s_lines) := ⟨rfl, rfl, rfl, by decide +kernel, rfl, by decide +kernel, by decide +kernel⟩
theorem ok_lines (T : Txt K mg A) : FnOk P w K mg base CX0 6 A.lines A.d_lines ["board"] (spLines A.C) := by
  have SC := sc_lines
  have G_line_from : FnOk P w K mg base CX0 5 A.lfrom A.d_lfrom ["board", "first"] (spFrom A.C) := ok_from T
  refine T.F_lines.ok sc_lines (fun vs H Q E h => ?_) (fun cdv A' outer s H vs Q E hr h => ?_)
  · obtain ⟨b, w, h, m, ns, rfl, _⟩ := h
    rfl
  · obtain ⟨b, w, h, m, ns, rfl, hb, w12, h12, hst, k⟩ := h
    have hu := hu_of hr
    refine ⟨_, (pss_cons (ps_set (i := 1) SC.nd rfl (.inl rfl) (pe_lst pa_nil))
      (pss_cons (ps_set (i := 2) SC.nd rfl (.inl rfl) pe_dnewT)
      (pss_cons (ps_for PassesOwn.never rfl (pi_range1 (by rfl) T.z_range (pa_cons (pe_fld (pv 0) rfl) pa_nil)) (pg_name (i := 3) SC.nd rfl (.inl rfl))
      (pss_one (ps_for PassesOwn.never rfl (pi_range1 (by rfl) T.z_range (pa_cons (pe_fld (pv 0) rfl) pa_nil)) (pg_name (i := 4) SC.nd rfl (.inl rfl))
      (pss_one (ps_for PassesOwn.never rfl (pi_range1 (by rfl) T.z_range (pa_cons pe_int pa_nil)) (pg_name (i := 5) SC.nd rfl (.inl rfl))
      (pss_one (ps_if (pt_cmp (pc_dnotin hu (pe_tup (pa_cons (pv 4) (pa_cons (pv 3) (pa_cons (pv 5) pa_nil)))) (pv 2))) (pss_cons (ps_set (i := 6) SC.nd rfl (.inl rfl) (pe_call G_line_from (hr.mono (by decide)) (by rfl) T.g_line_from T.F_line_from.kp T.b_line_from .nil pass0 (pa_cons (pv 0) (pa_cons (pe_tup (pa_cons (pv 4) (pa_cons (pv 3) (pa_cons (pv 5) pa_nil)))) pa_nil))))
      (pss_cons (ps_for PassesOwn.never rfl (pi_list (pv 6)) (pg_name (i := 7) SC.nd rfl (.inl rfl))
      (pss_one (ps_dput hu (pv 2) (pv 7) pe_bl rfl)))
      (pss_one (ps_expr (pe_bm PySem.F.plainAttrs_list PySem.F.slot_list_append PySem.F.type_list_append mt_append (pv 1) (pa_cons (pv 6) pa_nil)))))) pss_nil)))))))
      (pss_one (ps_ret (pv 1)))))), ?_⟩
    obtain ⟨ba, bdx, bdd, rfl, b1, b2⟩ := id hb
    refine q_asgL (el_lst ea_nil (by decide)) fun p H1 hp e1 hl => ?_
    -- seen = {}
    intro d hd
    have pd : p ≠ d := ne_of_none hl hd
    have e2 : Ex H (upd H1 d (.dT [])) := e1.trans (Ex.new hd)
    have hd0 : H d = none := fresh_back e1 hd
    have hwh : w * h ≤ 144 := Nat.le_trans (Nat.mul_le_mul w12 h12) (by decide)
    have hwh4 : 4 * w * h ≤ 576 := by rw [Nat.mul_assoc]; omega
    have some0 : ∀ r, r ≤ h → (stR w h r).isSome = true := stR_some (by rw [hst]; rfl)
    refine q_forR1 (n := (h : Int)) (ea_cons (ev_fld (ev_var rfl) (e2 _ _ b1) T.cl T.n_high (bf_high _ _ _)) ea_nil) ⟨by omega, by omega⟩
      (fun r σ' H' => ∃ x3 x4 x5 x6 x7 s, σ' = [some (.ref ba), some (.ref p), some (.ref d), x3, x4, x5, x6, x7] ∧ stR w h r = some s ∧ Turn w h H (.ref ba) p d (48 * r) s H')
      (fun H2 e3 => ⟨none, none, none, none, none, (0, []), rfl, rfl, ⟨e2.trans e3, ⟨[], e3 _ _ (by rw [upd_ne pd]; exact hl), .nil⟩, ⟨[], e3 _ _ upd_same, Nat.zero_le _, fun q _ => by rw [valV_nil]; simp⟩, Nat.zero_le _⟩⟩) ?_ ?_
    · rintro r σ' H' hr' ⟨x3, x4, x5, x6, x7, s, rfl, es, t⟩
      have hrh : r < h := by omega
      have someC : ∀ c, c ≤ w → (stC w h r (stR w h r) c).isSome = true := stC_some (n := w) (some0 (r + 1) (by omega))
      refine s_forR1 (n := (w : Int)) (ea_cons (ev_fld (ev_var rfl) (t.ex _ _ b1) T.cl T.n_wide (bf_wide _ _ _)) ea_nil) ⟨by omega, by omega⟩
        (fun c σ' H' => ∃ x4 x5 x6 x7 s, σ' = [some (.ref ba), some (.ref p), some (.ref d), some (.int (r : Int)), x4, x5, x6, x7] ∧ stC w h r (stR w h r) c = some s ∧ Turn w h H (.ref ba) p d (48 * r + 4 * c) s H')
        (fun H2 e3 => ⟨x4, x5, x6, x7, s, rfl, es, t.mono e3 (by omega)⟩) ?_ ?_
      · rintro c σ' H' hc' ⟨x4, x5, x6, x7, s, rfl, es, t⟩
        have hcw : c < w := by omega
        have someK : ∀ z, z ≤ 4 → (stK w h r c (stC w h r (stR w h r) c) z).isSome = true := stK_some (n := 4) (someC (c + 1) (by omega))
        refine s_forR1 (n := 4) (ea_cons ev_c ea_nil) ⟨by decide, by decide⟩
          (fun z σ' H' => ∃ x5 x6 x7 s, σ' = [some (.ref ba), some (.ref p), some (.ref d), some (.int (r : Int)), some (.int (c : Int)), x5, x6, x7] ∧ stK w h r c (stC w h r (stR w h r) c) z = some s ∧ Turn w h H (.ref ba) p d (48 * r + 4 * c + z) s H')
          (fun H2 e3 => ⟨x5, x6, x7, s, rfl, es, t.mono e3 (by omega)⟩) ?_ ?_
        · rintro z σ' H' hz' ⟨x5, x6, x7, s, rfl, es, t⟩
          have hz4 : z < 4 := by omega
          have okq : Ok w h (c, r, z) := ⟨hcw, hrh, hz4⟩
          obtain ⟨s', es'⟩ := Option.isSome_iff_exists.mp (someK (z + 1) (by omega))
          have et : turn w h s (c, r, z) = some s' := by
            have q : (stK w h r c (stC w h r (stR w h r) c) z).bind (fun s => turn w h s (c, r, z)) = some s' := es'
            rw [es] at q
            exact q
          obtain ⟨t1, ⟨xs, t2, t3⟩, ⟨kvs, t4, t5, t6⟩, t7⟩ := id t
          have key : EvP (tTup (tCons (tVar 4) (tCons (tVar 3) (tCons (tVar 5) tNil)))) [some (.ref ba), some (.ref p), some (.ref d), some (.int (r : Int)), some (.int (c : Int)), some (.int (z : Int)), x6, x7] H' (TupAt ((keyQ (c, r, z)).map kV)) := ep_tup (ea_cons (ev_var rfl) (ea_cons (ev_var rfl) (ea_cons (ev_var rfl) ea_nil))) (by show 3 ≤ 100000; decide)
          refine s_when (b := !s.1.testBit (code (c, r, z))) (et_is (et_dnotin key (ev_var rfl) t4) (by rw [t6 _ okq])) (fun hnew H2 e3 => ?_) (fun hold H2 e3 => ?_)
          · -- a new line
            have hbit : s.1.testBit (code (c, r, z)) = false := by simpa using hnew
            unfold turn at et
            rw [if_neg (by rw [hbit]; exact Bool.false_ne_true)] at et
            cases hgo : go w h (c, r, z) (4 * w * h + 1) (lv w (c, r, z)) false [(c, r, z)] with
            | none => rw [hgo] at et; cases et
            | some L =>
              rw [hgo] at et
              have es2 : s' = (L.foldl put s.1, L.length :: s.2) := (Option.some.inj et).symm
              have hLen : L.length ≤ 578 := by
                have q := go_len hgo
                simp only [List.length_singleton] at q
                omega
              have hLok : ∀ q ∈ L, Ok w h q := go_ok hgo (lv_ok okq) fun q hq => by
                rw [List.mem_singleton.mp hq]
                exact okq
              refine q_asgP (P := fun v H3 => ∃ l ys, v = .ref l ∧ H2 l = none ∧ H3 l = some (.lst ys) ∧ Qs H3 ys L) (ep_call (eap_consM (ep_ev (ev_var rfl)) (fun _ _ _ _ q => q) (eap_one (key.mono e3))) fun vs H3 e4 ⟨v, r', evs, ev, y, er', hy⟩ Q E kk => ?_) fun v H3 e4 pv => ?_
              · subst evs
                subst er'
                subst ev
                exact ⟨_, y, w, h, (c, r, z), L, rfl, hb.mono ((t1.trans e3).trans e4), w12, h12, hy, okq, hgo, fun l ys H5 e5 hl0 hl5 hq5 => kk _ H5 e5 ⟨l, ys, rfl, fresh_back e4 hl0, hl5, hq5⟩⟩
              · obtain ⟨l, ys, rfl, hl0, hl3, hys⟩ := pv
                have e34 := e3.trans e4
                have t2' := e34 _ _ t2
                have t4' := e34 _ _ t4
                have lp : l ≠ p := fun q => by rw [q, e3 _ _ t2] at hl0; cases hl0
                have lens := hys.length
                refine q_forLn (a := l) (xs := ys) (ev_var rfl) (sq_of hl3) (fun i σ' H4 => ∃ x7 kvs', σ' = [some (.ref ba), some (.ref p), some (.ref d), some (.int (r : Int)), some (.int (c : Int)), some (.int (z : Int)), some (.ref l), x7] ∧ (∀ a o, a ≠ d → H3 a = some o → H4 a = some o) ∧ H4 d = some (.dT kvs') ∧ kvs'.length ≤ kvs.length + i ∧ ∀ q, Ok w h q → (valV kvs' (keyQ q)).isSome = ((L.take i).foldl put s.1).testBit (code q))
                  (fun H4 e5 => ⟨x7, kvs, rfl, fun a o _ q => e5 _ _ q, e5 _ _ t4', Nat.le_refl _, fun q hq => by rw [t6 q hq]; rfl⟩) (fun i σ' H4 _ ⟨_, _, _, kp, _⟩ => sq_of (kp _ _ (ne_of hl3 t4' (by intro q; cases q)) hl3)) ?_ ?_
                · rintro i x σ' H4 hi ⟨x7, kvs', rfl, kp, hd4, hz4', hv4⟩
                  obtain ⟨q, hq, qa, rfl, hqa⟩ := hys.get hi
                  have hil : i < L.length := (List.getElem?_eq_some_iff.mp hq).1
                  have okq2 := hLok q (List.mem_of_getElem? hq)
                  refine ⟨_, rfl, _, rfl, d, _, rfl, DPut.t (k := keyQ q) hd4 (kp _ _ (ne_of hqa t4' (by intro q; cases q)) hqa) (by rw [sizeLine_eq]; omega), ?_⟩
                  refine ⟨_, _, rfl, fun a o na q => by rw [upd_ne na]; exact kp a o na q, upd_same, ?_, fun q' okq' => ?_⟩
                  · have z1 := length_putK kvs' (keyQ q) (.bl true)
                    omega
                  · have et' : L.take (i + 1) = L.take i ++ [q] := by rw [List.take_add_one, hq]; rfl
                    rw [valV_put, et', List.foldl_append]
                    show _ = (put ((L.take i).foldl put s.1) q).testBit (code q')
                    rw [put_bit]
                    by_cases eq : q' = q
                    · subst eq
                      rw [if_pos rfl, decide_eq_true rfl, Bool.or_true]
                      rfl
                    · have nk : ¬ keyQ q' = keyQ q := fun e => eq (keyQ_inj e)
                      have nc : ¬ code q = code q' := fun e => eq (code_inj w12 okq' okq2 e.symm)
                      rw [if_neg nk, decide_eq_false nc, Bool.or_false]
                      exact hv4 q' okq'
                · rintro σ' H4 ⟨x7, kvs', rfl, kp, hd4, hz4', hv4⟩
                  have eL : L.take ys.length = L := List.take_of_length_le (by omega)
                  rw [eL] at hv4
                  have hp4 := kp _ _ pd t2'
                  have hxs : xs.length ≤ 48 * r + 4 * c + z := by
                    have q := t3.length
                    rw [List.length_reverse] at q
                    omega
                  refine s_app hp4 (ev_var rfl) (ev_var rfl) (by omega) fun H5 e5 => ?_
                  have keep : ∀ a o, a ≠ d → a ≠ p → H' a = some o → (upd H5 p (.lst (xs ++ [.ref l]))) a = some o := fun a o na np q => by
                    rw [upd_ne np]
                    exact e5 _ _ (kp a o na (e34 _ _ q))
                  refine ⟨_, _, x7, s', rfl, es', ⟨fun a o q => keep a o (ne_of_none q hd0) (ne_of_none q hp) (t1 _ _ q), ⟨_, upd_same, ?_⟩, ⟨kvs', ?_, ?_, ?_⟩, ?_⟩⟩
                  · rw [es2]
                    show Lens p _ (xs ++ [.ref l]) (L.length :: s.2).reverse
                    rw [List.reverse_cons]
                    refine Lens.snoc (t3.to fun a ys' na q => keep a _ (ne_of q t4 (by intro q; cases q)) na q) ⟨l, ys, rfl, lp, ?_, lens⟩
                    rw [upd_ne lp]
                    exact e5 _ _ (kp _ _ (ne_of hl3 t4' (by intro q; cases q)) hl3)
                  · rw [upd_ne pd.symm]
                    exact e5 _ _ hd4
                  · omega
                  · intro q okq'
                    rw [es2]
                    exact hv4 q okq'
                  · rw [es2]
                    show s.2.length + 1 ≤ _
                    omega
          · -- seen already
            have hbit : s.1.testBit (code (c, r, z)) = true := by simpa using hold
            unfold turn at et
            rw [if_pos hbit] at et
            cases et
            exact ⟨_, x6, x7, s, rfl, es', t.mono e3 (by omega)⟩
        · rintro σ' H' ⟨x5, x6, x7, s, rfl, es, t⟩
          exact ⟨_, x5, x6, x7, s, rfl, es, t.mono (Ex.refl _) (by omega)⟩
      · rintro σ' H' ⟨x4, x5, x6, x7, s, rfl, es, t⟩
        exact ⟨_, x4, x5, x6, x7, s, rfl, es, t.mono (Ex.refl _) (by omega)⟩
    · rintro σ' H' ⟨x3, x4, x5, x6, x7, s, rfl, es, t⟩
      have es' : stR w h h = some s := by
        have z : ((h : Int)).toNat = h := by omega
        rw [z] at es
        exact es
      rw [hst] at es'
      cases es'
      obtain ⟨t1, ⟨xs, t2, t3⟩, _, _⟩ := t
      exact s_ret (ev_var rfl) fun H2 e3 => k p xs H2 (t1.trans e3) (e3 _ _ t2) (t3.to fun a ys _ q => e3 _ _ q)
/-! ### the law's own helpers -/
def spCommon : Sp := fun vs H Q _ => ∃ (w h : Nat), vs = [.int (w : Int), .int (h : Int)] ∧ w ≤ 12 ∧ h ≤ 12 ∧ ∀ H2, Ex H H2 → Q (.int (com w h w : Nat)) H2
theorem sc_common : FnScope ["one", "other", "most", "k"] ["one", "other"] (defScope s_common) := ⟨rfl, rfl, rfl, by decide +kernel, rfl, by decide +kernel, by decide +kernel⟩
theorem ok_common (T : Txt K mg A) : FnOk P w K mg base CX0 1 A.common A.d_common ["one", "other"] spCommon := by
  have SC := sc_common
  refine T.F_law_common.ok sc_common (fun vs H Q E h => ?_) (fun cdv A' outer s H vs Q E hr h => ?_)
  · obtain ⟨w, h, rfl, _⟩ := h
    rfl
  · obtain ⟨w, h, rfl, w12, h12, k⟩ := h
    refine ⟨_, (pss_cons (ps_set (i := 2) SC.nd rfl (.inl rfl) pe_int)
      (pss_cons (ps_for PassesOwn.never rfl (pi_range2 (by rfl) T.z_range (pa_cons pe_int (pa_cons (pe_op op_add (pv 0) pe_int) pa_nil))) (pg_name (i := 3) SC.nd rfl (.inl rfl))
      (pss_one (ps_if (PW.pt (pw_and (pt_cmpR op_eq (pe_op op_mod (pv 0) (pv 3)) pe_int (nomark _)) (pw_and1 (pt_cmpR op_eq (pe_op op_mod (pv 1) (pv 3)) pe_int (nomark _))))) (pss_one (ps_set (i := 2) SC.nd rfl (.inl rfl) (pv 3))) pss_nil)))
      (pss_one (ps_ret (pv 2))))), ?_⟩
    refine q_asg ev_c fun H1 e1 => ?_
    refine q_forR2 (lo := 1) (n := (w : Int) + 1) (ea_cons ev_c (ea_cons (ev_op (ev_var rfl) ev_c rv_I0) ea_nil)) ⟨by decide, by decide, by omega, by omega⟩ (fun i σ' H' => ∃ x3, σ' = [some (.int (w : Int)), some (.int (h : Int)), some (.int (com w h i : Nat)), x3] ∧ Ex H H') (fun H2 e2 => ⟨none, rfl, e1.trans e2⟩) ?_ ?_
    · rintro i σ' H' hi ⟨x3, rfl, e2⟩
      refine s_when (b := decide (w % (i + 1) = 0 ∧ h % (i + 1) = 0)) (et_is (et_and (et_test (ev_op (ev_op (ev_var rfl) (ev_var rfl) (rv_I (by omega))) ev_c (rv_eq (by rfl)))) fun _ => et_test (ev_op (ev_op (ev_var rfl) (ev_var rfl) (rv_I (by omega))) ev_c (rv_eq (by rfl)))) ?_) (fun hb H3 e3 => ?_) (fun hb H3 e3 => ?_)
      · have z1 : (w : Int) % (1 + (i : Int)) = ((w % (i + 1) : Nat) : Int) := by
          rw [Int.natCast_emod, Int.natCast_add, Int.add_comm]
          rfl
        have z2 : (h : Int) % (1 + (i : Int)) = ((h % (i + 1) : Nat) : Int) := by
          rw [Int.natCast_emod, Int.natCast_add, Int.add_comm]
          rfl
        rw [z1, z2, Bool.eq_iff_iff]
        simp only [Bool.and_eq_true, decide_eq_true_eq, V.int.injEq]
        omega
      · refine s_asg (ev_var rfl) fun H4 e4 => ⟨some (.int (1 + (i : Int))), ?_, (e2.trans e3).trans e4⟩
        have z : com w h (i + 1) = i + 1 := if_pos (of_decide_eq_true hb)
        rw [z]
        show [some (V.int (w : Int)), some (.int (h : Int)), some (.int (1 + (i : Int))), some (.int (1 + (i : Int)))] = _
        rw [show (1 + (i : Int)) = ((i + 1 : Nat) : Int) by omega]
      · refine ⟨some (.int (1 + (i : Int))), ?_, e2.trans e3⟩
        have z : com w h (i + 1) = com w h i := if_neg (of_decide_eq_false hb)
        rw [z]
        rfl
    · rintro σ' H' ⟨x3, rfl, e2⟩
      have z : ((w : Int) + 1 - 1).toNat = w := by omega
      rw [z]
      exact s_ret (ev_var rfl) fun H3 e3 => k H3 (e2.trans e3)
theorem pairs_ok {m : Int} : okSize (pairs m).1 (pairs m).2 = true ∧ okSize (pairs m).2 (pairs m).1 = true := by
  unfold pairs
  split
  · exact ⟨by decide, by decide⟩
  · split
    · exact ⟨by decide, by decide⟩
    · split <;> exact ⟨by decide, by decide⟩
theorem ok_of {w h W H : Int} (w1 : 1 ≤ w) (w2 : w ≤ W) (h1 : 1 ≤ h) (h2 : h ≤ H) (a : W ≤ 12) (b : H ≤ 12) (c : W * H ≤ 36) : okSize w h = true := by
  have z : w * h ≤ W * H := Int.mul_le_mul w2 h2 (by omega) (by omega)
  unfold okSize
  rw [decide_eq_true w1, decide_eq_true (show w ≤ 12 by omega), decide_eq_true h1, decide_eq_true (show h ≤ 12 by omega), decide_eq_true (show w * h ≤ 36 by omega)]
  rfl
theorem size_ok (c : Int) : okSize (sizeOf c).1 (sizeOf c).2 = true := by
  unfold sizeOf
  split
  · split
    · exact pairs_ok.1
    · exact pairs_ok.2
  · split
    · exact ok_of (W := 12) (H := 3) (by dsimp only; omega) (by dsimp only; omega) (by dsimp only; omega) (by dsimp only; omega) (by decide) (by decide) (by decide)
    · split
      · exact ok_of (W := 3) (H := 12) (by dsimp only; omega) (by dsimp only; omega) (by dsimp only; omega) (by dsimp only; omega) (by decide) (by decide) (by decide)
      · exact ok_of (W := 6) (H := 6) (by dsimp only; omega) (by dsimp only; omega) (by dsimp only; omega) (by dsimp only; omega) (by decide) (by decide) (by decide)
/-! ### the law -/
theorem kit_ll : PySem.W.kitOne K (.type "list") (.type "list") = some true := kit_ty (by decide +kernel)
def spLaw (K : PySem.W.Frag) : Sp := fun vs H Q _ => ∃ (a : Addr) (ns : List Int), vs = [.ref a] ∧ SqL K H a (ns.map V.int) ∧ ns.length ≤ 63 ∧ ∀ H', Q (.bl true) H'
theorem sc_law : FnScope ["script", "wide", "high", "found", "many", "line"] ["script"] (defScope s_law) := ⟨rfl, rfl, rfl, by decide +kernel, rfl, by decide +kernel, by decide +kernel⟩
theorem ok_law {f : Addr} {fd : FuncData} (F : Fun K "law" "law" s_law f fd) (T : Txt K mg A) : FnOk P w K mg base CX0 7 f fd ["script"] (spLaw K) := by
  have SC := sc_law
  have G_Board_init : FnOk P w K mg base (L2.CX P w) 1 A.init A.d_init ["self", "wide", "high"] (spInit A.C A.NB) := ok_init T
  have G_lines : FnOk P w K mg base CX0 6 A.lines A.d_lines ["board"] (spLines A.C) := ok_lines T
  have G_law_cell_at : FnOk P w K mg base CX0 1 A.cell A.d_cell ["script", "k"] (spCell K) := ok_cell T
  have G_law_size : FnOk P w K mg base CX0 1 A.size A.d_size ["cell"] spSize := ok_size T
  have G_law_common : FnOk P w K mg base CX0 1 A.common A.d_common ["one", "other"] spCommon := ok_common T
  refine F.ok sc_law (fun vs H Q E h => ?_) (fun cdv A' outer s H vs Q E hr h => ?_)
  · obtain ⟨a, ns, rfl, _⟩ := h
    rfl
  · obtain ⟨a, ns, rfl, hS, hlen, k⟩ := h
    refine ⟨_, (pss_cons (ps_asg (pe_call G_law_size (hr.mono (by decide)) (by rfl) T.g_law_size T.F_law_size.kp T.b_law_size .nil pass0 (pa_cons (pe_call G_law_cell_at (hr.mono (by decide)) (by rfl) T.g_law_cell_at T.F_law_cell_at.kp T.b_law_cell_at .nil pass0 (pa_cons (pv 0) (pa_cons pe_int pa_nil))) pa_nil)) (pg_tup (by rfl) (pgs_cons (pg_name (i := 1) SC.nd rfl (.inl rfl)) (pgs_cons (pg_name (i := 2) SC.nd rfl (.inl rfl)) pgs_nil))))
      (pss_cons (ps_set (i := 3) SC.nd rfl (.inl rfl) (pe_call G_lines (hr.mono (by decide)) (by rfl) T.g_lines T.F_lines.kp T.b_lines .nil pass0 (pa_cons (pe_make T.M_Board G_Board_init (hr.mono (by decide)) (by rfl) T.g_Board T.b_Board_init .nil passL (pa_cons (pv 1) (pa_cons (pv 2) pa_nil))) pa_nil)))
      (pss_cons (ps_set (i := 4) SC.nd rfl (.inl rfl) (pe_call G_law_common (hr.mono (by decide)) (by rfl) T.g_law_common T.F_law_common.kp T.b_law_common .nil pass0 (pa_cons (pv 1) (pa_cons (pv 2) pa_nil))))
      (pss_cons (ps_if (PW.pt (pw_or (pt_not (pt_val (pe_callB call_isi (by rfl) T.z_isinstance (by decide +kernel) (pa_cons (pv 3) (pa_cons (pe_bltn (v := .ty "list") (by rfl) T.z_list (by decide +kernel) rfl) pa_nil))))) (pw_or1 (pt_cmpR op_ne (pe_callB call_len_seq (by rfl) T.z_len (by decide +kernel) (pa_cons (pv 3) pa_nil)) (pv 4) (nomark _))))) (pss_one (ps_ret pe_bl)) pss_nil)
      (pss_cons (ps_for PassesOwn.never rfl (pi_list (pv 3)) (pg_name (i := 5) SC.nd rfl (.inl rfl))
      (pss_one (ps_if (PW.pt (pw_or (pt_not (pt_val (pe_callB call_isi (by rfl) T.z_isinstance (by decide +kernel) (pa_cons (pv 5) (pa_cons (pe_bltn (v := .ty "list") (by rfl) T.z_list (by decide +kernel) rfl) pa_nil))))) (pw_or1 (pt_cmpR op_ne (pe_op op_mul (pe_callB call_len_seq (by rfl) T.z_len (by decide +kernel) (pa_cons (pv 5) pa_nil)) (pv 4)) (pe_op op_mul (pe_op op_mul pe_int (pv 1)) (pv 2)) (nomark _))))) (pss_one (ps_ret pe_bl)) pss_nil)))
      (pss_one (ps_ret pe_bl))))))), ?_⟩
    refine q_asgG (ep_size (ea_cons (ev_cell (k := 0) hS (ea_cons (ev_var rfl) (ea_cons ev_c ea_nil))) ea_nil)) fun v H1 e1 pv => ?_
    obtain ⟨q, rfl, hq⟩ := pv
    have ok := size_ok (cel ns 0)
    generalize (sizeOf (cel ns 0)).1 = wi at ok hq
    generalize (sizeOf (cel ns 0)).2 = hi at ok hq
    refine g_two (st_of hq) ?_
    have bnd := ok
    unfold okSize at bnd
    simp only [Bool.and_eq_true, decide_eq_true_eq] at bnd
    obtain ⟨⟨w1, w2⟩, ⟨h1, h2⟩, m36⟩ := bnd
    obtain ⟨w, rfl⟩ : ∃ w : Nat, wi = (w : Int) := ⟨wi.toNat, by omega⟩
    obtain ⟨h, rfl⟩ : ∃ h : Nat, hi = (h : Int) := ⟨hi.toNat, by omega⟩
    have m36' : w * h ≤ 36 := by
      have z : ((w * h : Nat) : Int) ≤ 36 := by rw [Int.natCast_mul]; exact m36
      omega
    obtain ⟨m, ls, est, elen, eall⟩ := good_is (good_of (w := w) (h := h) (by omega) (by omega) (by omega) (by omega) m36')
    -- found = lines(Board(wide, high))
    refine q_asgP (P := fun v H2 => ∃ p xs, v = .ref p ∧ H2 p = some (.lst xs) ∧ Lens p H2 xs ls.reverse) (ep_call (eap_one (ep_make (w := (w : Int)) (h := (h : Int)) (ea_cons (ev_var rfl) (ea_cons (ev_var rfl) ea_nil)) ok)) fun vs H2 e2 ⟨b, ev, hb⟩ Q E kk => ?_) fun v H2 e2 pv => ?_
    · subst ev
      exact ⟨b, w, h, m, ls, rfl, hb, by omega, by omega, est, fun p xs H3 e3 z1 z2 => kk _ H3 e3 ⟨p, xs, rfl, z1, z2⟩⟩
    · obtain ⟨p, xs, rfl, hp, hL⟩ := pv
      -- many
      refine q_asg (v := .int (com w h w : Nat)) (ev_ep (ep_call (eap_ea (ea_cons (ev_var rfl) (ea_cons (ev_var rfl) ea_nil))) fun vs H3 e3 ev Q E kk => ?_)) fun H3 e3 => ?_
      · subst ev
        exact ⟨w, h, rfl, by omega, by omega, fun H4 e4 => kk _ H4 e4 rfl⟩
      have hp3 := e3 _ _ hp
      have elx : xs.length = com w h w := by
        have z := hL.length
        rw [List.length_reverse] at z
        omega
      refine q_when (b := false) (et_or (a := false) (b := false) (et_not (a := true) (et_B (ev_isi (ev_var rfl) (fun H1 e => .base (.lst (e _ _ hp3))) kit_ll))) fun _ => et_is (et_test (ev_op (ev_len (ev_var rfl) (sq_of hp3)) (ev_var rfl) (rv_ne (by rfl)))) (by rw [elx, decide_eq_true rfl]; rfl)) (fun z => nomatch z) (fun _ H4 e4 => ?_)
      have hp4 := e4 _ _ hp3
      have hL4 : Lens p H4 xs ls.reverse := hL.to fun a ys _ q => e4 _ _ (e3 _ _ q)
      have hcom : com w h w ≤ 12 := by
        have : ∀ n, n ≤ w → com w h n ≤ max 1 w := fun n => by
          induction n with
          | zero => intro _; show 1 ≤ max 1 w; omega
          | succ n ih =>
            intro hn
            unfold com
            split
            · omega
            · exact ih (by omega)
        have z := this w (Nat.le_refl _)
        omega
      refine q_forLn (a := p) (xs := xs) (ev_var rfl) (sq_of hp4) (fun i σ' H' => ∃ x5, σ' = [some (.ref a), some (.int (w : Int)), some (.int (h : Int)), some (.ref p), some (.int (com w h w : Nat)), x5] ∧ Ex H4 H') (fun H5 e5 => ⟨none, rfl, e5⟩) (fun i σ' H' _ ⟨_, _, e⟩ => sq_of (e _ _ hp4)) ?_ ?_
      · rintro i x σ' H' hi ⟨x5, rfl, e5⟩
        obtain ⟨n, hn, l, ys, rfl, _, hl, rfl⟩ := hL4.get hi
        have hin := eall ys.length (List.mem_reverse.mp (List.mem_of_getElem? hn))
        have hl5 := e5 _ _ hl
        have cm1 : CMul (ys.length : Int) (com w h w : Nat) := .inr ⟨by omega, by omega⟩
        have cm2 : CMul 4 (w : Int) := .inl ⟨by decide, by decide⟩
        have cm3 : CMul (4 * (w : Int)) (h : Int) := .inl ⟨by omega, by omega⟩
        refine s_when (b := false) (et_or (a := false) (b := false) (et_not (a := true) (et_B (ev_isi (ev_var rfl) (fun H1 e => .base (.lst (e _ _ hl5))) kit_ll))) fun _ => et_is (et_test (ev_op (ev_op (ev_len (ev_var rfl) (sq_of hl5)) (ev_var rfl) (rv_I cm1)) (ev_op (ev_op ev_c (ev_var rfl) (rv_I cm2)) (ev_var rfl) (rv_I cm3)) (rv_ne (by rfl)))) ?_) (fun z => nomatch z) (fun _ H6 e6 => ⟨_, rfl, e5.trans e6⟩)
        have z : (ys.length : Int) * ((com w h w : Nat) : Int) = 4 * (w : Int) * (h : Int) := by
          have q := congrArg (fun n : Nat => (n : Int)) hin
          simp only [Int.natCast_mul] at q
          exact q
        rw [z, decide_eq_true rfl]
        rfl
      · rintro σ' H' ⟨x5, rfl, e5⟩
        exact s_ret ev_c fun H6 _ => k H6
end
/-! ### what the top has written, the law's own head -/
theorem all_mk {l : PySem.W.OpenLaw} {w : World} {K : PySem.W.Frag} {h : Heap} {mg : Str → Option Value} {fa : Addr} (X : K.In h) (G : h.Ns mainGlobals mg) (hfa : mg "law" = some (.ref fa)) {C NB bes initA hasA signA levelA uprightA ledA lfromA linesA cellA sizeA commonA fL : Addr}
    {od1 an1 od2 an2 od3 an3 od4 an4 od5 an5 od6 an6 od7 an7 od8 an8 od9 an9 od10 an10 od11 an11 od12 an12 : Option Addr} {sl1 sl2 sl3 sl4 sl5 sl6 sl7 sl8 sl9 sl10 sl11 sl12 : Array (Option Value)} {oc1 kV1 dc1 pm1 cd1 ct1 oc2 kV2 dc2 pm2 cd2 ct2 oc3 kV3 dc3 pm3 cd3 ct3 oc4 kV4 dc4 pm4 cd4 ct4 oc5 kV5 dc5 pm5 cd5 ct5 oc6 kV6 dc6 pm6 cd6 ct6 oc7 kV7 dc7 pm7 cd7 ct7 oc8 kV8 dc8 pm8 cd8 ct8 oc9 kV9 dc9 pm9 cd9 ct9 oc10 kV10 dc10 pm10 cd10 ct10 oc11 kV11 dc11 pm11 cd11 ct11 oc12 kV12 dc12 pm12 cd12 ct12 : Value} {tW tM : Tok} {ddB : Option Addr} {itsB : Array Value} {nB : Nat} {slB : Array (Option Value)}
    (aC : PySem.W.nsIn K mainGlobals "Board" = some (some (.ref C)))
    (a1 : PySem.W.findIn K (.ref C) "__init__" = some (some (.ref initA)))
    (i1 : PySem.W.isFn K (.ref initA) = true)
    (l1 : K.lookup initA = some ⟨oc1, od1, .func (PySem.W.fnOf "__init__" "Board.__init__" (defArgs s_init) (defBody s_init) (defScope s_init) .none kV1 dc1 pm1 an1 cd1 ct1), sl1⟩)
    (c1 : PySem.W.codeIn K cd1 "Board.__init__" = true)
    (k1 : PySem.W.keepIn K (.ref initA) = true)
    (a2 : PySem.W.findIn K (.ref C) "has" = some (some (.ref hasA)))
    (i2 : PySem.W.isFn K (.ref hasA) = true)
    (l2 : K.lookup hasA = some ⟨oc2, od2, .func (PySem.W.fnOf "has" "Board.has" (defArgs s_has) (defBody s_has) (defScope s_has) .none kV2 dc2 pm2 an2 cd2 ct2), sl2⟩)
    (c2 : PySem.W.codeIn K cd2 "Board.has" = true)
    (k2 : PySem.W.keepIn K (.ref hasA) = true)
    (a3 : PySem.W.findIn K (.ref C) "sign" = some (some (.ref signA)))
    (i3 : PySem.W.isFn K (.ref signA) = true)
    (l3 : K.lookup signA = some ⟨oc3, od3, .func (PySem.W.fnOf "sign" "Board.sign" (defArgs s_sign) (defBody s_sign) (defScope s_sign) .none kV3 dc3 pm3 an3 cd3 ct3), sl3⟩)
    (c3 : PySem.W.codeIn K cd3 "Board.sign" = true)
    (k3 : PySem.W.keepIn K (.ref signA) = true)
    (a4 : PySem.W.nsIn K mainGlobals "led_level" = some (some (.ref levelA)))
    (l4 : K.lookup levelA = some ⟨oc4, od4, .func (PySem.W.fnOf "led_level" "led_level" (defArgs s_level) (defBody s_level) (defScope s_level) .none kV4 dc4 pm4 an4 cd4 ct4), sl4⟩)
    (c4 : PySem.W.codeIn K cd4 "led_level" = true)
    (k4 : PySem.W.keepIn K (.ref levelA) = true)
    (a5 : PySem.W.nsIn K mainGlobals "led_upright" = some (some (.ref uprightA)))
    (l5 : K.lookup uprightA = some ⟨oc5, od5, .func (PySem.W.fnOf "led_upright" "led_upright" (defArgs s_upright) (defBody s_upright) (defScope s_upright) .none kV5 dc5 pm5 an5 cd5 ct5), sl5⟩)
    (c5 : PySem.W.codeIn K cd5 "led_upright" = true)
    (k5 : PySem.W.keepIn K (.ref uprightA) = true)
    (a6 : PySem.W.nsIn K mainGlobals "led" = some (some (.ref ledA)))
    (l6 : K.lookup ledA = some ⟨oc6, od6, .func (PySem.W.fnOf "led" "led" (defArgs s_led) (defBody s_led) (defScope s_led) .none kV6 dc6 pm6 an6 cd6 ct6), sl6⟩)
    (c6 : PySem.W.codeIn K cd6 "led" = true)
    (k6 : PySem.W.keepIn K (.ref ledA) = true)
    (a7 : PySem.W.nsIn K mainGlobals "line_from" = some (some (.ref lfromA)))
    (l7 : K.lookup lfromA = some ⟨oc7, od7, .func (PySem.W.fnOf "line_from" "line_from" (defArgs s_from) (defBody s_from) (defScope s_from) .none kV7 dc7 pm7 an7 cd7 ct7), sl7⟩)
    (c7 : PySem.W.codeIn K cd7 "line_from" = true)
    (k7 : PySem.W.keepIn K (.ref lfromA) = true)
    (a8 : PySem.W.nsIn K mainGlobals "lines" = some (some (.ref linesA)))
    (l8 : K.lookup linesA = some ⟨oc8, od8, .func (PySem.W.fnOf "lines" "lines" (defArgs s_lines) (defBody s_lines) (defScope s_lines) .none kV8 dc8 pm8 an8 cd8 ct8), sl8⟩)
    (c8 : PySem.W.codeIn K cd8 "lines" = true)
    (k8 : PySem.W.keepIn K (.ref linesA) = true)
    (a9 : PySem.W.nsIn K mainGlobals "_law_cell_at" = some (some (.ref cellA)))
    (l9 : K.lookup cellA = some ⟨oc9, od9, .func (PySem.W.fnOf "_law_cell_at" "_law_cell_at" (defArgs s_cell) (defBody s_cell) (defScope s_cell) .none kV9 dc9 pm9 an9 cd9 ct9), sl9⟩)
    (c9 : PySem.W.codeIn K cd9 "_law_cell_at" = true)
    (k9 : PySem.W.keepIn K (.ref cellA) = true)
    (a10 : PySem.W.nsIn K mainGlobals "_law_size" = some (some (.ref sizeA)))
    (l10 : K.lookup sizeA = some ⟨oc10, od10, .func (PySem.W.fnOf "_law_size" "_law_size" (defArgs s_size) (defBody s_size) (defScope s_size) .none kV10 dc10 pm10 an10 cd10 ct10), sl10⟩)
    (c10 : PySem.W.codeIn K cd10 "_law_size" = true)
    (k10 : PySem.W.keepIn K (.ref sizeA) = true)
    (a11 : PySem.W.nsIn K mainGlobals "_law_common" = some (some (.ref commonA)))
    (l11 : K.lookup commonA = some ⟨oc11, od11, .func (PySem.W.fnOf "_law_common" "_law_common" (defArgs s_common) (defBody s_common) (defScope s_common) .none kV11 dc11 pm11 an11 cd11 ct11), sl11⟩)
    (c11 : PySem.W.codeIn K cd11 "_law_common" = true)
    (k11 : PySem.W.keepIn K (.ref commonA) = true)
    (a12 : PySem.W.nsIn K mainGlobals "law" = some (some (.ref fL)))
    (l12 : K.lookup fL = some ⟨oc12, od12, .func (PySem.W.fnOf "law" "law" (defArgs s_law) (defBody s_law) (defScope s_law) .none kV12 dc12 pm12 an12 cd12 ct12), sl12⟩)
    (c12 : PySem.W.codeIn K cd12 "law" = true)
    (k12 : PySem.W.keepIn K (.ref fL) = true)
    (pg : PySem.W.plainGet K C Str.empty = true)
    (hd : PySem.W.hasDictIn K C = true)
    (po : PySem.W.plainOver K C = true)
    (sa : PySem.W.findIn K (.ref C) "__setattr__" = some (some (.builtin "object.__setattr__")))
    (mk : PySem.W.makesIn K C = true)
    (kc : PySem.W.keepIn K (.ref C) = true)
    (n_wide : PySem.W.findIn K (.ref C) "wide" = some none)
    (n_high : PySem.W.findIn K (.ref C) "high" = some none)
    (n_mirrors : PySem.W.findIn K (.ref C) "mirrors" = some none)
    (z_range : PySem.W.nsIn K mainGlobals "range" = some none)
    (z_len : PySem.W.nsIn K mainGlobals "len" = some none)
    (z_isinstance : PySem.W.nsIn K mainGlobals "isinstance" = some none)
    (z_list : PySem.W.nsIn K mainGlobals "list" = some none)
    (g_WIDEST : PySem.W.nsIn K mainGlobals "WIDEST" = some (some (.int 12 tW)))
    (g_MOST : PySem.W.nsIn K mainGlobals "MOST" = some (some (.int 36 tM)))
    (g_NoBoard : PySem.W.nsIn K mainGlobals "NoBoard" = some (some (.ref NB)))
    (g_BESIDE : PySem.W.nsIn K mainGlobals "BESIDE" = some (some (.ref bes)))
    (x_NB : PySem.W.excIn K NB [.type "ValueError", .type "Exception", .type "BaseException", .type "object"] "ValueError.__new__" = true)
    (k_NB : PySem.W.keepIn K (.ref NB) = true)
    (r_NB : PySem.W.subIn K (.ref NB) (.type "BaseException") = some true)
    (t_NB : PySem.W.typeIn K (.ref NB) = some (.type "type"))
    (lB : K.lookup bes = some ⟨.type "tuple", ddB, .seq itsB nB, slB⟩)
    (zB : itsB.size ≤ sizeLine)
    (vB : Vals [V.int 1, V.int 0, V.int 3, V.int 2] itsB.toList)
    : ∃ fd : FuncData, (∀ (s : Shared) (v : Value), BindsTo s fd ⟨[v], []⟩ [("script", v)]) ∧ ∀ base : Heap, K.In base → base.Ns mainGlobals mg → FnOk l.prog w K mg base CX0 7 fa fd ["script"] (spLaw K) := by
  have e := hfa.symm.trans (PySem.W.mg_of X G a12)
  cases e
  have F1 := fun_mk (st := s_init) l1 c1 k1
  have b1 := F1.binds (ps := ["self", "wide", "high"]) fun _ _ _ _ _ _ us hl => match us, hl with | [_, _, _], _ => rfl
  have F2 := fun_mk (st := s_has) l2 c2 k2
  have b2 := F2.binds (ps := ["self", "door"]) fun _ _ _ _ _ _ us hl => match us, hl with | [_, _], _ => rfl
  have F3 := fun_mk (st := s_sign) l3 c3 k3
  have b3 := F3.binds (ps := ["self", "door"]) fun _ _ _ _ _ _ us hl => match us, hl with | [_, _], _ => rfl
  have F4 := fun_mk (st := s_level) l4 c4 k4
  have b4 := F4.binds (ps := ["board", "quarter"]) fun _ _ _ _ _ _ us hl => match us, hl with | [_, _], _ => rfl
  have F5 := fun_mk (st := s_upright) l5 c5 k5
  have b5 := F5.binds (ps := ["board", "quarter"]) fun _ _ _ _ _ _ us hl => match us, hl with | [_, _], _ => rfl
  have F6 := fun_mk (st := s_led) l6 c6 k6
  have b6 := F6.binds (ps := ["board", "quarter", "level"]) fun _ _ _ _ _ _ us hl => match us, hl with | [_, _, _], _ => rfl
  have F7 := fun_mk (st := s_from) l7 c7 k7
  have b7 := F7.binds (ps := ["board", "first"]) fun _ _ _ _ _ _ us hl => match us, hl with | [_, _], _ => rfl
  have F8 := fun_mk (st := s_lines) l8 c8 k8
  have b8 := F8.binds (ps := ["board"]) fun _ _ _ _ _ _ us hl => match us, hl with | [_], _ => rfl
  have F9 := fun_mk (st := s_cell) l9 c9 k9
  have b9 := F9.binds (ps := ["script", "k"]) fun _ _ _ _ _ _ us hl => match us, hl with | [_, _], _ => rfl
  have F10 := fun_mk (st := s_size) l10 c10 k10
  have b10 := F10.binds (ps := ["cell"]) fun _ _ _ _ _ _ us hl => match us, hl with | [_], _ => rfl
  have F11 := fun_mk (st := s_common) l11 c11 k11
  have b11 := F11.binds (ps := ["one", "other"]) fun _ _ _ _ _ _ us hl => match us, hl with | [_, _], _ => rfl
  have F12 := fun_mk (st := s_law) l12 c12 k12
  have T : Txt K mg { C := C, NB := NB, bes := bes, init := initA, d_init := _, has := hasA, d_has := _, sign := signA, d_sign := _, level := levelA, d_level := _, upright := uprightA, d_upright := _, led := ledA, d_led := _, lfrom := lfromA, d_lfrom := _, lines := linesA, d_lines := _, cell := cellA, d_cell := _, size := sizeA, d_size := _, common := commonA, d_common := _ } := {
    cl := ⟨pg, hd, po, sa⟩
    n_wide := n_wide
    n_high := n_high
    n_mirrors := n_mirrors
    z_range := PySem.W.mg_none_of X G z_range
    z_len := PySem.W.mg_none_of X G z_len
    z_isinstance := PySem.W.mg_none_of X G z_isinstance
    z_list := PySem.W.mg_none_of X G z_list
    g_WIDEST := ⟨_, PySem.W.mg_of X G g_WIDEST⟩
    g_MOST := ⟨_, PySem.W.mg_of X G g_MOST⟩
    g_NoBoard := PySem.W.mg_of X G g_NoBoard
    g_BESIDE := PySem.W.mg_of X G g_BESIDE
    g_Board := PySem.W.mg_of X G aC
    x_NB := x_NB
    k_NB := k_NB
    r_NB := r_NB
    t_NB := t_NB
    t_BESIDE := fun H => .inr ⟨_, itsB, nB, lB, rfl, rfl, zB, vB⟩
    M_Board := ⟨mk, a1, i1, kc⟩
    F_init := F1
    b_Board_init := b1
    F_has := F2
    b_has := b2
    m_has := ⟨a2, i2, k2⟩
    F_sign := F3
    b_sign := b3
    m_sign := ⟨a3, i3, k3⟩
    F_led_level := F4
    b_led_level := b4
    g_led_level := PySem.W.mg_of X G a4
    F_led_upright := F5
    b_led_upright := b5
    g_led_upright := PySem.W.mg_of X G a5
    F_led := F6
    b_led := b6
    g_led := PySem.W.mg_of X G a6
    F_line_from := F7
    b_line_from := b7
    g_line_from := PySem.W.mg_of X G a7
    F_lines := F8
    b_lines := b8
    g_lines := PySem.W.mg_of X G a8
    F_law_cell_at := F9
    b_law_cell_at := b9
    g_law_cell_at := PySem.W.mg_of X G a9
    F_law_size := F10
    b_law_size := b10
    g_law_size := PySem.W.mg_of X G a10
    F_law_common := F11
    b_law_common := b11
    g_law_common := PySem.W.mg_of X G a11
  }
  exact ⟨PySem.W.fnOf "law" "law" (defArgs s_law) (defBody s_law) (defScope s_law) .none kV12 dc12 pm12 an12 cd12 ct12, fun s v => .of_eq rfl, fun base _ _ => ok_law F12 T⟩
theorem walk {l : PySem.W.OpenLaw} {q : Program} {loose : List Str} {XP : (Str → Option Value) → Heap → Prop} {YP : World → Heap → Prop} {d : DefRec} {K : Params → PySem.W.Frag} (hn : l.most = some 63) (hdf : d.params.defaults = [])
    (hY : ∀ (w : World) (h : Heap), YP w h → (K w.params).In h)
    (F : ∀ (w : World) (mg : Str → Option Value) (fa : Addr) (h : Heap), (K w.params).In h → h.Ns mainGlobals mg → mg d.name = some (.ref fa) →
      ∃ fd : FuncData, (∀ (s : Shared) (u : Value), BindsTo s fd ⟨[u], []⟩ [("script", u)]) ∧ ∀ base : Heap, (K w.params).In base → base.Ns mainGlobals mg → FnOk l.prog w (K w.params) mg base CX0 7 fa fd ["script"] (spLaw (K w.params))) :
    PySem.W.WalkO q loose XP YP l.row.toRowW d [] (fun f vs => PySem.call f vs) :=
  L2.walk_of (n := 63) (k := 7) (x := "script") (CX := fun _ => CX0) (sp := fun w => spLaw (K w.params)) hn (by decide) hdf ⟨rfl, by decide, by decide⟩ hY F (fun _ _ a ns hl _ hS => ⟨a, ns, rfl, hS, hl, fun _ => rfl⟩) fun _ _ _ _ _ z => z
end SD
open PySem PySem.W PyProof.Rows
set_option maxRecDepth 100000 in
set_option maxHeartbeats 0 in
theorem PySem.Challenge.cw_sandline_k08_whole_bare_boards_holds : PySem.Challenge.rw_sandline_k08_whole_bare_boards.Holds := by
  w_on; o_law; k_head; (case hw => w_witness2)
  k_fill
  refine SD.walk (l := PySem.Challenge.rw_sandline_k08_whole_bare_boards) rfl rfl (fun w h Y => PySem.W.kIn_of Y) ?F
  case F =>
    intro w mg fa h KX G hmg
    refine' SD.all_mk KX G hmg ?aC ?a1 ?i1 ?l1 ?c1 ?k1 ?a2 ?i2 ?l2 ?c2 ?k2 ?a3 ?i3 ?l3 ?c3 ?k3 ?a4 ?l4 ?c4 ?k4 ?a5 ?l5 ?c5 ?k5 ?a6 ?l6 ?c6 ?k6 ?a7 ?l7 ?c7 ?k7 ?a8 ?l8 ?c8 ?k8 ?a9 ?l9 ?c9 ?k9 ?a10 ?l10 ?c10 ?k10 ?a11 ?l11 ?c11 ?k11 ?a12 ?l12 ?c12 ?k12 ?pg ?hd ?po ?sa ?mk ?kc ?n_wide ?n_high ?n_mirrors ?z_range ?z_len ?z_isinstance ?z_list ?g_WIDEST ?g_MOST ?g_NoBoard ?g_BESIDE ?x_NB ?k_NB ?r_NB ?t_NB ?lB ?zB ?vB
    (case aC => k_is)
    (case a1 => k_is)
    (case i1 => k_is)
    (case l1 => k_is)
    (case c1 => k_is)
    (case k1 => k_is)
    (case a2 => k_is)
    (case i2 => k_is)
    (case l2 => k_is)
    (case c2 => k_is)
    (case k2 => k_is)
    (case a3 => k_is)
    (case i3 => k_is)
    (case l3 => k_is)
    (case c3 => k_is)
    (case k3 => k_is)
    (case a4 => k_is)
    (case l4 => k_is)
    (case c4 => k_is)
    (case k4 => k_is)
    (case a5 => k_is)
    (case l5 => k_is)
    (case c5 => k_is)
    (case k5 => k_is)
    (case a6 => k_is)
    (case l6 => k_is)
    (case c6 => k_is)
    (case k6 => k_is)
    (case a7 => k_is)
    (case l7 => k_is)
    (case c7 => k_is)
    (case k7 => k_is)
    (case a8 => k_is)
    (case l8 => k_is)
    (case c8 => k_is)
    (case k8 => k_is)
    (case a9 => k_is)
    (case l9 => k_is)
    (case c9 => k_is)
    (case k9 => k_is)
    (case a10 => k_is)
    (case l10 => k_is)
    (case c10 => k_is)
    (case k10 => k_is)
    (case a11 => k_is)
    (case l11 => k_is)
    (case c11 => k_is)
    (case k11 => k_is)
    (case a12 => k_is)
    (case l12 => k_is)
    (case c12 => k_is)
    (case k12 => k_is)
    (case pg => k_is)
    (case hd => k_is)
    (case po => k_is)
    (case sa => k_is)
    (case mk => k_is)
    (case kc => k_is)
    (case n_wide => k_is)
    (case n_high => k_is)
    (case n_mirrors => k_is)
    (case z_range => k_is)
    (case z_len => k_is)
    (case z_isinstance => k_is)
    (case z_list => k_is)
    (case g_WIDEST => k_is)
    (case g_MOST => k_is)
    (case g_NoBoard => k_is)
    (case g_BESIDE => k_is)
    (case x_NB => k_exc)
    (case k_NB => k_is)
    (case r_NB => k_is)
    (case t_NB => k_is)
    (case lB => k_is)
    (case zB => first | decide | (show 4 ≤ sizeLine; decide))
    (case vB => exact .cons ⟨_, rfl⟩ (.cons ⟨_, rfl⟩ (.cons ⟨_, rfl⟩ (.cons ⟨_, rfl⟩ .nil))))
