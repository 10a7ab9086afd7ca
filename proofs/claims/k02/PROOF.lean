import PyProof.Rows.All
import Wide.All
import OpenK.AllK
import Wide.FinOn
import KE.KStateDown
import Lean
import HandS.ForMost
import HandS.ForExc
import HandS.TryMany
import HandS.Defaults
import HandS.EndBits
import HandS.IsInst
import HandS.Style
import HandS.Zip
import HandS.TupAny
import HandS.WideBits
import HandS.Wide
import HandS.Head0
import HandS.Head1
import HandS.Head2
import HandS.HeadEnd
import HandS.HeadHook1
import HandS.HeadHook2
import PySem.Challenge.RW_murrine_k02_turnings_make_a_group
set_option Elab.async false
set_option linter.all false
set_option maxRecDepth 100000
set_option maxHeartbeats 4000000
/-! Own words over the hand layer: a def with its promise (Fk), its calls; readings step by step (z_*). -/
namespace Mur
open PySem hiding start
open PySem.Spec L2
open PyProof.Rows hiding St

/-! ### a def of the text that keeps its promise -/
structure Fk (P : Program) (w : World) (K : PySem.W.Frag) (mg : Str → Option Value) (base : Heap) (k : Nat) (f : Addr) (ps : List Str) (sp : Sp) : Prop where
  ex : ∃ fd, FnOk P w K mg base (L2.CX P w) k f fd ps sp ∧ Binds K fd ps []
  kp : PySem.W.keepIn K (.ref f) = true
section
variable {P : Program} {w : World} {K : PySem.W.Frag} {mg : Str → Option Value} {base : Heap} {k : Nat} {f : Addr} {ps : List Str} {sp : Sp}
theorem Fk.up {j : Nat} (G : Fk P w K mg base k f ps sp) (h : k ≤ j) : Fk P w K mg base j f ps sp :=
  let ⟨fd, a, b⟩ := G.ex; ⟨⟨fd, a.mono h, b⟩, G.kp⟩
theorem Fk.mk' {x qual : Str} {params : Arguments} {body : List Stmt} {scope : Scope} {N : List Str} (F : ∃ fd, FunD K x qual params body scope [] [] f fd) (S : FnScope N ps scope)
    (hb : ∀ (kV doc pm : Value) (an : Option Addr) (cdv ct : Value) (us : List Value), us.length = ps.length → bindArgs (PySem.W.fnOf x qual params body scope .none kV doc pm an cdv ct) ⟨us, []⟩ = pure (ps.zip us))
    (len : ∀ vs H Q E, sp vs H Q E → vs.length = ps.length)
    (hbody : ∀ (cdv : Value) (A : Around) (outer : List Env) (s : Shared) (H : Hp) (vs : List V) (Q : VK) (E : XK), Room k (A.deeper (envOfC qual scope s.heap.objs.size f cdv)) → sp vs H Q E →
      ∃ t, PSs (cxOf (L2.CX P w) P w K mg base N qual scope f cdv A outer s H E) body t ∧ t { nx := fun _ H' => Q .non H', rt := Q } (start N vs) H) : Fk P w K mg base (k + 1) f ps sp := by
  obtain ⟨fd, F⟩ := F
  exact ⟨⟨fd, F.ok (CX := L2.CX P w) S len hbody, F.bindsN hb⟩, F.kp⟩
end
section
variable {X : Cx} {k : Nat} {f C : Addr} {ps : List Str} {sp : Sp} {E : XK} {x m : Str} {p pos apos : Pos} {e o : Expr} {es : List Expr} {ta : TE} {t : TA}
theorem q_call (G : Fk X.prog X.w X.K X.mg X.base k f ps sp) (hr : Room k X.A) (hm : X.mg x = some (.ref f)) (hx : Passes (L2.CX X.prog X.w) X E) (ha : PA X (e :: es) t) (hg : Gl X x := by rfl)
    (hdb : (x == ("__debug__" : Str)) = false := by decide) (he : starEach (e :: es) X.env = (false, eval e X.env) :: starEach es X.env := by rfl) (hpl : (backTo pos (starEach es X.env)).any (·.1) = false := by rfl) :
    PE X (.Call (.Name x p) (e :: es) [] pos) (tCall sp [] E t) := by
  obtain ⟨fd, F, B⟩ := G.ex
  exact pe_call F hr hg hm G.kp B .nil hx ha hdb he hpl
theorem q_call0 (G : Fk X.prog X.w X.K X.mg X.base k f ps sp) (hr : Room k X.A) (hm : X.mg x = some (.ref f)) (hx : Passes (L2.CX X.prog X.w) X E) (hg : Gl X x := by rfl)
    (hdb : (x == ("__debug__" : Str)) = false := by decide) : PE X (.Call (.Name x p) [] [] pos) (tCall sp [] E tNil) := by
  obtain ⟨fd, F, B⟩ := G.ex
  exact pe_call0 F hr hg hm G.kp B .nil hx hdb
theorem q_callS {E : St → XK} (G : Fk X.prog X.w X.K X.mg X.base k f ps sp) (hr : Room k X.A) (hm : X.mg x = some (.ref f)) (hx : ∀ σ, PassesAt (L2.CX X.prog X.w) X σ (E σ)) (ha : PA X (e :: es) t) (hg : Gl X x := by rfl)
    (hdb : (x == ("__debug__" : Str)) = false := by decide) (he : starEach (e :: es) X.env = (false, eval e X.env) :: starEach es X.env := by rfl) (hpl : (backTo pos (starEach es X.env)).any (·.1) = false := by rfl) :
    PE X (.Call (.Name x p) (e :: es) [] pos) (tCallS sp E t) := by
  obtain ⟨fd, F, B⟩ := G.ex
  exact pe_callS F hr hg hm G.kp B hx ha hdb he hpl
end
section
variable {X : Cx} {k : Nat} {f C : Addr} {ps : List Str} {sp : Sp} {E : XK} {x m : Str} {p pos apos : Pos} {e o : Expr} {es : List Expr} {ta : TE} {t : TA}
theorem q_meth {pl : Sem Bool} (he : PE X o ta) (c : Cls X.K C) (hm : Meth X.K C m f) (G : Fk X.prog X.w X.K X.mg X.base k f ps sp) (hr : Room k X.A) (hx : Passes (L2.CX X.prog X.w) X E) (ha : PA X (e :: es) t)
    (hst : starEach (e :: es) X.env = (false, eval e X.env) :: starEach es X.env := by rfl) (hpl : (backTo pos (starEach es X.env)).any (·.1) = false := by rfl)
    (ht : eval (.Call (.Attribute o m apos) (e :: es) [] pos) X.env = (do
      let ov ← eval o X.env
      standAt apos.atName
      let (f, first) ← holding [ov] (getMethod ov m pl)
      callWith pos f first (backTo pos (starEach (e :: es) X.env)) (backToKw pos (keywordEach [] X.env))) := by rfl) :
    PE X (.Call (.Attribute o m apos) (e :: es) [] pos) (tMeth C m sp [] E ta t) := by
  obtain ⟨fd, F, B⟩ := G.ex
  exact pe_meth he c hm F hr B .nil hx ha hst hpl ht
theorem q_meth0 {pl : Sem Bool} (he : PE X o ta) (c : Cls X.K C) (hm : Meth X.K C m f) (G : Fk X.prog X.w X.K X.mg X.base k f ps sp) (hr : Room k X.A) (hx : Passes (L2.CX X.prog X.w) X E)
    (ht : eval (.Call (.Attribute o m apos) [] [] pos) X.env = (do
      let ov ← eval o X.env
      standAt apos.atName
      let (f, first) ← holding [ov] (getMethod ov m pl)
      callWith pos f first (backTo pos (starEach [] X.env)) (backToKw pos (keywordEach [] X.env))) := by rfl) :
    PE X (.Call (.Attribute o m apos) [] [] pos) (tMeth C m sp [] E ta tNil) := by
  obtain ⟨fd, F, B⟩ := G.ex
  exact pe_meth0 he c hm F hr B .nil hx ht
/-- within a try: what is raised is wished for at the slots -/
def tMethSl (C : Addr) (m : Str) (sp : Sp) (E : L2.St → XK) (ta : TE) (t : TA) : TE := fun σ H Q => ta σ H fun x H1 => ∃ a dx fs, x = .ref a ∧ H1 a = some (.ins C dx fs) ∧ fs.lookup m = none ∧
  t σ H1 fun vs H2 => sp (x :: vs) H2 Q (E σ)
theorem q_methS {E : L2.St → XK} {pl : Sem Bool} (he : PE X o ta) (c : Cls X.K C) (hm : Meth X.K C m f) (G : Fk X.prog X.w X.K X.mg X.base k f ps sp) (hr : Room k X.A) (hx : ∀ σ, PassesAt (L2.CX X.prog X.w) X σ (E σ)) (ha : PA X (e :: es) t)
    (hst : starEach (e :: es) X.env = (false, eval e X.env) :: starEach es X.env := by rfl) (hpl : (backTo pos (starEach es X.env)).any (·.1) = false := by rfl)
    (ht : eval (.Call (.Attribute o m apos) (e :: es) [] pos) X.env = (do
      let ov ← eval o X.env
      standAt apos.atName
      let (f, first) ← holding [ov] (getMethod ov m pl)
      callWith pos f first (backTo pos (starEach (e :: es) X.env)) (backToKw pos (keywordEach [] X.env))) := by rfl) :
    PE X (.Call (.Attribute o m apos) (e :: es) [] pos) (tMethSl C m sp E ta t) := by
  obtain ⟨fd, F, B⟩ := G.ex
  refine ⟨fun pins s σ H Q I h => ?_⟩
  refine PySem.W.methodCall_KW (pl := pl) (thn (he.run pins s σ H _ I h) fun u s1 ⟨x, H1, I1, rx, a, dx, fs, ex, ea, l, q⟩ => ?_) ht
  subst ex
  obtain rfl : u = Value.ref a := rx
  refine getmeth_ok I1 ea c hm l ?_
  exact PySem.W.callWith_K (first := [.ref a]) (h₀ := X.base) I.ok.mod.kin hm.kp (thn (ha.run pos pins s1 σ H1 _ I1 q) fun us s2 ⟨vs, H2, I2, r, q2⟩ => ⟨I2.kIn, run_fnS (us := .ref a :: us) (vs := .ref a :: vs) F hr B (hx σ) I2 (.cons rfl r) q2⟩) hst hpl
theorem q_meth0S {E : L2.St → XK} {pl : Sem Bool} (he : PE X o ta) (c : Cls X.K C) (hm : Meth X.K C m f) (G : Fk X.prog X.w X.K X.mg X.base k f ps sp) (hr : Room k X.A) (hx : ∀ σ, PassesAt (L2.CX X.prog X.w) X σ (E σ))
    (ht : eval (.Call (.Attribute o m apos) [] [] pos) X.env = (do
      let ov ← eval o X.env
      standAt apos.atName
      let (f, first) ← holding [ov] (getMethod ov m pl)
      callWith pos f first (backTo pos (starEach [] X.env)) (backToKw pos (keywordEach [] X.env))) := by rfl) :
    PE X (.Call (.Attribute o m apos) [] [] pos) (tMethSl C m sp E ta tNil) := by
  obtain ⟨fd, F, B⟩ := G.ex
  refine ⟨fun pins s σ H Q I h => ?_⟩
  refine PySem.W.methodCall_KW (pl := pl) (thn (he.run pins s σ H _ I h) fun u s1 ⟨x, H1, I1, rx, a, dx, fs, ex, ea, l, q⟩ => ?_) ht
  subst ex
  obtain rfl : u = Value.ref a := rx
  refine getmeth_ok I1 ea c hm l ?_
  exact PySem.W.callWith_K0 (first := [.ref a]) I1.kIn hm.kp (run_fnS (us := [.ref a]) (vs := [.ref a]) F hr B (hx σ) I1 (.cons rfl .nil) q)
theorem q_make (M : Mk X.K C f) (G : Fk X.prog X.w X.K X.mg X.base k f ps sp) (hr : Room (k + 1) X.A) (hm : X.mg x = some (.ref C)) (hx : Passes (L2.CX X.prog X.w) X E) (ha : PA X (e :: es) t) (hg : Gl X x := by rfl)
    (hdb : (x == ("__debug__" : Str)) = false := by decide) (he : starEach (e :: es) X.env = (false, eval e X.env) :: starEach es X.env := by rfl) (hpl : (backTo pos (starEach es X.env)).any (·.1) = false := by rfl) :
    PE X (.Call (.Name x p) (e :: es) [] pos) (tMake C sp [] E t) := by
  obtain ⟨fd, F, B⟩ := G.ex
  exact pe_make M F hr hg hm B .nil hx ha hdb he hpl
theorem q_make0 (M : Mk X.K C f) (G : Fk X.prog X.w X.K X.mg X.base k f ps sp) (hr : Room (k + 1) X.A) (hm : X.mg x = some (.ref C)) (hx : Passes (L2.CX X.prog X.w) X E) (hg : Gl X x := by rfl)
    (hdb : (x == ("__debug__" : Str)) = false := by decide) : PE X (.Call (.Name x p) [] [] pos) (tMake C sp [] E tNil) := by
  obtain ⟨fd, F, B⟩ := G.ex
  exact pe_make0 M F hr hg hm B .nil hx hdb
end
/-- what a callee raises leaves the def's own body -/
theorem passX {P : Program} {w : World} {K : PySem.W.Frag} {mg : Str → Option Value} {base : Heap} {N : List Str} {qual : Str} {scope : Scope} {f : Addr} {cd : Value} {A : Around} {outer : List Env} {s : Shared} {H : Hp} {E : XK} :
    Passes (L2.CX P w) (cxOf (L2.CX P w) P w K mg base N qual scope f cd A outer s H E) E := passes_call (takes_of rfl rfl rfl rfl) fun _ _ _ _ h => h
theorem takesX {P : Program} {w : World} {K : PySem.W.Frag} {mg : Str → Option Value} {base : Heap} {N : List Str} {qual : Str} {scope : Scope} {f : Addr} {cd : Value} {A : Around} {outer : List Env} {s : Shared} {H : Hp} {E : XK} :
    Takes (cxOf (L2.CX P w) P w K mg base N qual scope f cd A outer s H E) (fun cls d _ H => E cls d H) := takes_of rfl rfl rfl rfl
/-- a global int -/
theorem q_int {X : Cx} {x : Str} {i : Int} {pos : Pos} (hm : ∃ t, X.mg x = some (.int i t)) (hg : Gl X x := by rfl) (hd : (x == ("__debug__" : Str)) = false := by decide) : PE X (.Name x pos) (tC (.int i)) := by
  obtain ⟨t, e⟩ := hm
  exact pe_glob hg e ⟨_, rfl⟩ hd
theorem q_txt {X : Cx} {x z : Str} {pos : Pos} (hm : ∃ t, X.mg x = some (.str z t)) (hg : Gl X x := by rfl) (hd : (x == ("__debug__" : Str)) = false := by decide) : PE X (.Name x pos) (tC (.str z)) := by
  obtain ⟨t, e⟩ := hm
  exact pe_glob hg e ⟨_, rfl⟩ hd

/-! ### operators of several kinds -/
def rIsX : R2 := fun x y H Q => (y = .non ∨ ∃ b, y = .bl b) ∧ Q (.bl (decide (x = y))) H
def rNotX : R2 := fun x y H Q => (y = .non ∨ ∃ b, y = .bl b) ∧ Q (.bl (!decide (x = y))) H
theorem op_isX {X : Cx} : OpR X (compareOp .Is) rIsX := by
  intro pins s σ H x y v u Q I rx ry h
  obtain ⟨rfl | ⟨b, rfl⟩, q⟩ := h
  · exact op_isN pins s σ H x .non v u Q I rx ry ⟨rfl, q⟩
  · cases x with
    | bl a =>
      refine op_isBl pins s σ H (.bl a) (.bl b) v u Q I rx ry ⟨a, b, rfl, rfl, ?_⟩
      have e : decide (V.bl a = V.bl b) = decide (a = b) := by by_cases h : a = b <;> simp [h]
      rw [e] at q
      exact q
    | non => cases (show u = Value.bool b from ry); cases (show v = Value.none from rx); exact wpAny_pure (fin_bl I q rfl)
    | ref a => cases (show u = Value.bool b from ry); cases (show v = Value.ref a from rx); exact wpAny_pure (fin_bl I q rfl)
    | ty n => cases (show u = Value.bool b from ry); cases (show v = Value.type n from rx); exact wpAny_pure (fin_bl I q rfl)
    | int i => cases (show u = Value.bool b from ry); obtain ⟨t, rfl⟩ := rx; exact wpAny_pure (fin_bl I q rfl)
    | str i => cases (show u = Value.bool b from ry); obtain ⟨t, rfl⟩ := rx; exact wpAny_pure (fin_bl I q rfl)
    | byt i => cases (show u = Value.bool b from ry); obtain ⟨t, rfl⟩ := rx; exact wpAny_pure (fin_bl I q rfl)
    | flt i => cases (show u = Value.bool b from ry); obtain ⟨t, rfl⟩ := rx; exact wpAny_pure (fin_bl I q rfl)
/-- +: ints, texts, lists, tuples -/
def rAddU (K : PySem.W.Frag) : R2 := fun x y H Q => rI0 (fun i j => .int (i + j)) x y H Q ∨ (∃ i j, x = .str i ∧ y = .str j ∧ i.length + j.length ≤ sizeLine ∧ Q (.str (i ++ j)) H) ∨ rCat x y H Q ∨ rCatA K x y H Q
theorem op_addU {X : Cx} : OpR X (binaryOp .Add) (rAddU X.K) := op_add.or (op_add_str.or (op_cat.or op_catA))
/-- *: ints of any size that matters, a list times an int -/
def rMulU : R2 := fun x y H Q => rI CMulX (fun i j => .int (i * j)) x y H Q ∨ rRep x y H Q
theorem op_mulU {X : Cx} : OpR X (binaryOp .Mult) rMulU := op_mulX.or op_rep
abbrev rSubI : R2 := rI0 fun i j => .int (i - j)
abbrev rDivI : R2 := rI CDivW fun i j => .int (i / j)
abbrev rModI : R2 := rI (fun _ j => 0 < j) fun i j => .int (i % j)
abbrev rShlI : R2 := rI CPow fun i j => .int (i * 2 ^ j.toNat)
abbrev rPowI : R2 := rI CPow fun i j => .int (i ^ j.toNat)
/-- ==: scalars, or data at any depth -/
def rEqU (K : PySem.W.Frag) : R2 := fun x y H Q => rEq x y H Q ∨ rEqD K x y H Q
def rNeU (K : PySem.W.Frag) : R2 := fun x y H Q => rNe x y H Q ∨ rNeD K x y H Q
theorem op_eqU {X : Cx} (hu : X.A.units + 64 < cLine) : OpR X (compareOp .Eq) (rEqU X.K) := op_eq.or (op_eqD hu)
theorem op_neU {X : Cx} (hu : X.A.units + 64 < cLine) : OpR X (compareOp .NotEq) (rNeU X.K) := op_ne.or (op_neD hu)

/-! ### slots -/
inductive StartAt : List Str → List V → St → Prop where
  | val {x : Str} {N : List Str} {v : V} {vs : List V} {σ : St} : StartAt N vs σ → StartAt (x :: N) (v :: vs) (some v :: σ)
  | non {x : Str} {N : List Str} {σ : St} : StartAt N [] σ → StartAt (x :: N) [] (none :: σ)
  | nil : StartAt [] [] []
theorem StartAt.eq : ∀ {N : List Str} {vs : List V} {σ : St}, StartAt N vs σ → start N vs = σ
  | _, _, _, .val h => by
    have e := h.eq
    unfold start at e ⊢
    simp only [List.map_cons, List.length_cons, List.cons_append, Nat.add_sub_add_right, e]
  | _, _, _, .non h => by
    have e := h.eq
    unfold start at e ⊢
    simp only [List.map_nil, List.length_cons, List.length_nil, Nat.sub_zero, List.nil_append, List.replicate_succ] at e ⊢
    rw [e]
  | _, _, _, .nil => rfl
theorem z_start {N : List Str} {vs : List V} {σ : St} {t : TS} {D : Ends} {H : Hp} (e : StartAt N vs σ) (k : t D σ H) : t D (start N vs) H := by rw [e.eq]; exact k
inductive SetAt : St → Nat → Option V → St → Prop where
  | zero {a v : Option V} {l : St} : SetAt (a :: l) 0 v (v :: l)
  | succ {a v : Option V} {l l' : St} {n : Nat} : SetAt l n v l' → SetAt (a :: l) (n + 1) v (a :: l')
theorem SetAt.eq : ∀ {l l' : St} {n : Nat} {v : Option V}, SetAt l n v l' → l.set n v = l'
  | _, _, _, _, .zero => rfl
  | _, _, _, _, .succ h => by rw [List.set_cons_succ, h.eq]
section
variable {K : PySem.W.Frag} {σ σ' : St} {H : Hp} {Q : VK} {ta tb tc te : TE} {v x y : V} {D : Ends} {ts tu : TS} {TQ : Bool → Hp → Prop} {tt tt2 : TT} {GQ : St → Hp → Prop}
/-! ### statements -/
theorem z_seq (h : ts { D with nx := tu D } σ H) : tSeq ts tu D σ H := h
theorem z_next (h : D.nx σ H) : tNext D σ H := h
theorem z_drop (h : te σ H fun _ H1 => D.nx σ H1) : tDrop te D σ H := h
theorem z_ret (h : te σ H D.rt) : tRet te D σ H := h
theorem z_retN (h : D.rt .non H) : tRetN D σ H := h
theorem z_asg {g : TG} (h : te σ H fun x H1 => g x σ H1 D.nx) : tAsg te g D σ H := h
theorem z_name {i : Nat} (e : SetAt σ i (some v) σ') (k : GQ σ' H) : gName i v σ H GQ := by
  show GQ (σ.set i (some v)) H
  rw [e.eq]; exact k
theorem z_if (h : tt σ H fun b H1 => if b = true then ts D σ H1 else tu D σ H1) : tIfS tt ts tu D σ H := h
theorem z_par {i j : Nat} {t : TA} (h : t σ H fun vs H1 => ∃ v w, vs = [v, w] ∧ D.nx ((σ.set i (some v)).set j (some w)) H1) : tPar i j t D σ H := h
theorem z_par2 {i j : Nat} {v w : V} {σ1 σ2 : St} (e1 : SetAt σ i (some v) σ1) (e2 : SetAt σ1 j (some w) σ2) (k : D.nx σ2 H) : ∃ v' w', [v, w] = [v', w'] ∧ D.nx ((σ.set i (some v')).set j (some w')) H :=
  ⟨v, w, rfl, by rw [e1.eq, e2.eq]; exact k⟩
/-! ### tests -/
theorem z_tTest (h : te σ H fun x H' => ∃ k, x = .bl k ∧ TQ k H') : tTest te σ H TQ := h
theorem z_tB (h : te σ H fun x H' => ∃ k, x = .bl k ∧ TQ k H') : tB te σ H TQ := h
theorem z_bl {b : Bool} (h : TQ b H) : ∃ k, V.bl b = .bl k ∧ TQ k H := ⟨b, rfl, h⟩
theorem z_and (h : tt σ H fun c H1 => if c = true then tt2 σ H1 TQ else TQ false H1) : tAnd tt tt2 σ H TQ := h
theorem z_or (h : tt σ H fun c H1 => if c = true then TQ true H1 else tt2 σ H1 TQ) : tOr tt tt2 σ H TQ := h
theorem z_not (h : tt σ H fun c H1 => TQ (!c) H1) : tNot tt σ H TQ := h
theorem z_ite {c A B : Prop} [Decidable c] (h1 : c → A) (h2 : ¬ c → B) : if decide c = true then A else B := by
  by_cases h : c
  · rw [if_pos (decide_eq_true h)]; exact h1 h
  · rw [if_neg (by rw [decide_eq_false h]; exact Bool.false_ne_true)]; exact h2 h
theorem z_iteN {c A B : Prop} [Decidable c] (h1 : ¬ c → A) (h2 : c → B) : if (!decide c) = true then A else B := by
  by_cases h : c
  · rw [decide_eq_true h]; exact iteF (h2 h)
  · rw [decide_eq_false h]; exact iteT (h1 h)
theorem z_yes {c A B : Prop} [Decidable c] (hc : c) (h : A) : if decide c = true then A else B := by rw [if_pos (decide_eq_true hc)]; exact h
theorem z_no {c A B : Prop} [Decidable c] (hc : ¬ c) (h : B) : if decide c = true then A else B := by rw [decide_eq_false hc]; exact iteF h
theorem z_yesN {c A B : Prop} [Decidable c] (hc : ¬ c) (h : A) : if (!decide c) = true then A else B := by rw [decide_eq_false hc]; exact iteT h
theorem z_noN {c A B : Prop} [Decidable c] (hc : c) (h : B) : if (!decide c) = true then A else B := by rw [decide_eq_true hc]; exact iteF h
theorem z_nnot {b : Bool} {A B : Prop} (h : if b = true then B else A) : if (!b) = true then A else B := by
  cases b
  · exact iteT (by simpa using h)
  · exact iteF (by simpa using h)
/-! ### expressions -/
theorem z_var {i : Nat} (e : σ[i]? = some (some v)) (k : Q v H) : tVar i σ H Q := ⟨v, e, k⟩
theorem z_c (k : Q v H) : tC v σ H Q := k
theorem z_op {r : R2} (h : ta σ H fun x H1 => tb σ H1 fun y H2 => r x y H2 Q) : tOp r ta tb σ H Q := h
theorem z_un {r : V → Hp → VK → Prop} (h : ta σ H fun x H1 => r x H1 Q) : tUn r ta σ H Q := h
theorem z_andV (h : ta σ H fun x H1 => ∃ c, x = .bl c ∧ if c = true then tb σ H1 Q else Q (.bl false) H1) : tAndV ta tb σ H Q := h
theorem z_orV (h : ta σ H fun x H1 => ∃ c, x = .bl c ∧ if c = true then Q (.bl true) H1 else tb σ H1 Q) : tOrV ta tb σ H Q := h
theorem z_notV (h : ta σ H fun x H1 => ∃ c, x = .bl c ∧ Q (.bl (!c)) H1) : tNotV ta σ H Q := h
theorem z_ifE (h : tt σ H fun c H1 => if c = true then ta σ H1 Q else tb σ H1 Q) : tIf tt ta tb σ H Q := h
theorem z_blQ {b : Bool} {R : Bool → Prop} (h : R b) : ∃ c, V.bl b = .bl c ∧ R c := ⟨b, rfl, h⟩
theorem z_cons {tr : TA} {AQ : List V → Hp → Prop} (h : ta σ H fun x H1 => tr σ H1 fun xs H2 => AQ (x :: xs) H2) : tCons ta tr σ H AQ := h
theorem z_nil {AQ : List V → Hp → Prop} (h : AQ [] H) : tNil σ H AQ := h
theorem z_tup {t : TA} (h : t σ H fun xs H1 => xs.length ≤ sizeLine ∧ ∀ p, H1 p = none → Q (.ref p) (upd H1 p (.tup xs))) : tTup t σ H Q := h
theorem z_lst {t : TA} (h : t σ H fun xs H1 => xs.length ≤ sizeLine ∧ ∀ p, H1 p = none → Q (.ref p) (upd H1 p (.lst xs))) : tLst t σ H Q := h
theorem z_call {sp : Sp} {E : XK} {t : TA} (h : t σ H fun vs H1 => sp (vs ++ []) H1 Q E) : tCall sp [] E t σ H Q := h
theorem z_callS {sp : Sp} {E : St → XK} {t : TA} (h : t σ H fun vs H1 => sp vs H1 Q (E σ)) : tCallS sp E t σ H Q := h
theorem z_cb {r : List V → Hp → VK → Prop} {t : TA} (h : t σ H fun vs H1 => r vs H1 Q) : tCB r t σ H Q := h
theorem z_chain {r r' : R2} (h : ta σ H fun x H1 => tb σ H1 fun y H2 => r x y H2 fun z H3 => ∃ k, z = .bl k ∧ (if k = true then tc σ H3 fun z' H4 => r' y z' H4 Q else Q (.bl false) H3)) : tChain r r' ta tb tc σ H Q := h
/-! ### operators on values -/
theorem z_I0 {g : Int → Int → V} {i j : Int} (k : Q (g i j) H) : rI0 g (.int i) (.int j) H Q := ⟨i, j, rfl, rfl, k⟩
theorem z_I {C : Int → Int → Prop} {g : Int → Int → V} {i j : Int} (c : C i j) (k : Q (g i j) H) : rI C g (.int i) (.int j) H Q := ⟨i, j, rfl, rfl, c, k⟩
theorem z_U {g : Int → V} {i : Int} (k : Q (g i) H) : rU g (.int i) H Q := ⟨i, rfl, k⟩
theorem z_addI {i j : Int} (k : Q (.int (i + j)) H) : rAddU K (.int i) (.int j) H Q := .inl ⟨i, j, rfl, rfl, k⟩
theorem z_addS {i j : Str} (c : i.length + j.length ≤ sizeLine) (k : Q (.str (i ++ j)) H) : rAddU K (.str i) (.str j) H Q := .inr (.inl ⟨i, j, rfl, rfl, c, k⟩)
theorem z_addL {a b : Addr} {xs zs : List V} (h1 : H a = some (.lst xs)) (h2 : H b = some (.lst zs)) (c : xs.length + zs.length ≤ sizeLine) (k : ∀ p, H p = none → Q (.ref p) (upd H p (.lst (xs ++ zs)))) : rAddU K (.ref a) (.ref b) H Q :=
  .inr (.inr (.inl ⟨a, b, xs, zs, rfl, rfl, h1, h2, c, k⟩))
theorem z_mulI {i j : Int} (c : CMulX i j) (k : Q (.int (i * j)) H) : rMulU (.int i) (.int j) H Q := .inl ⟨i, j, rfl, rfl, c, k⟩
theorem z_mulL {l : Addr} {n : Int} {xs : List V} (h : H l = some (.lst xs)) (c1 : 0 ≤ n) (c2 : n < 2 ^ 62) (c3 : xs.length * n.toNat ≤ sizeLine) (k : ∀ p, H p = none → Q (.ref p) (upd H p (.lst (List.replicate n.toNat xs).flatten))) : rMulU (.ref l) (.int n) H Q :=
  .inr ⟨l, n, xs, rfl, rfl, h, by omega, by omega, c3, k⟩
theorem z_eqI {i j : Int} (k : Q (.bl (decide (i = j))) H) : rEqU K (.int i) (.int j) H Q := .inl ⟨rfl, by
  have e : decide (V.int i = V.int j) = decide (i = j) := by by_cases h : i = j <;> simp [h]
  rw [e]; exact k⟩
theorem z_neI {i j : Int} (k : Q (.bl (!decide (i = j))) H) : rNeU K (.int i) (.int j) H Q := .inl ⟨rfl, by
  have e : decide (V.int i = V.int j) = decide (i = j) := by by_cases h : i = j <;> simp [h]
  rw [e]; exact k⟩
theorem z_eqS {i j : Str} (k : Q (.bl (decide (i = j))) H) : rEqU K (.str i) (.str j) H Q := .inl ⟨rfl, by
  have e : decide (V.str i = V.str j) = decide (i = j) := by by_cases h : i = j <;> simp [h]
  rw [e]; exact k⟩
theorem z_neS {i j : Str} (k : Q (.bl (!decide (i = j))) H) : rNeU K (.str i) (.str j) H Q := .inl ⟨rfl, by
  have e : decide (V.str i = V.str j) = decide (i = j) := by by_cases h : i = j <;> simp [h]
  rw [e]; exact k⟩
theorem z_isN (k : Q (.bl (decide (x = .non))) H) : rIsX x .non H Q := ⟨.inl rfl, k⟩
theorem z_isB {b : Bool} (k : Q (.bl (decide (x = .bl b))) H) : rIsX x (.bl b) H Q := ⟨.inr ⟨b, rfl⟩, k⟩
end
end Mur
/-! Data in the heap (Dv) that stays; isinstance by kinds. -/
namespace Mur
open PySem hiding start
open PySem.Spec L2
open PyProof.Rows hiding St
theorem _root_.L2.Same.new {H : Hp} {p : Addr} {o : HO} (h : H p = none) : Same H (upd H p o) := fun a u e => by
  rw [upd_ne (ne_of_none e h)]; exact e
theorem _root_.L2.Same.set {H H' : Hp} {p : Addr} {o : HO} (e : Same H H') (h : H p = none) : Same H (upd H' p o) := fun a u q => by
  rw [upd_ne (ne_of_none q h)]; exact e a u q
theorem _root_.L2.Same.tup {K : PySem.W.Frag} {H H' : Hp} {a : Addr} {xs : List V} (e : Same H H') (h : SqT K H a xs) : SqT K H' a xs := by
  rcases h with (h | ⟨o, h⟩) | h
  · exact .inl (.inl (e _ _ h))
  · exact .inl (.inr ⟨o, e _ _ h⟩)
  · exact .inr h
mutual
inductive Dv (H : Hp) : V → PyData → Prop
  | non : Dv H .non .none
  | bl (b : Bool) : Dv H (.bl b) (.bool b)
  | int (i : Int) : Dv H (.int i) (.int i)
  | str (x : Str) : Dv H (.str x) (.str x)
  | lst {a : Addr} {xs : List V} {ds : List PyData} : H a = some (.lst xs) → DvAll H xs ds → Dv H (.ref a) (.list ds)
  | tup {a : Addr} {xs : List V} {ds : List PyData} : H a = some (.tup xs) → DvAll H xs ds → Dv H (.ref a) (.tuple ds)
inductive DvAll (H : Hp) : List V → List PyData → Prop
  | nil : DvAll H [] []
  | cons {v : V} {vs : List V} {d : PyData} {ds : List PyData} : Dv H v d → DvAll H vs ds → DvAll H (v :: vs) (d :: ds)
end
mutual
theorem dv_same {H H' : Hp} (e : Same H H') : ∀ {d : PyData} {v : V}, Dv H v d → Dv H' v d
  | _, _, .non => .non
  | _, _, .bl b => .bl b
  | _, _, .int i => .int i
  | _, _, .str x => .str x
  | _, _, .lst h a => .lst (e _ _ h) (dvAll_same e a)
  | _, _, .tup h a => .tup (e _ _ h) (dvAll_same e a)
theorem dvAll_same {H H' : Hp} (e : Same H H') : ∀ {ds : List PyData} {vs : List V}, DvAll H vs ds → DvAll H' vs ds
  | _, _, .nil => .nil
  | _, _, .cons h t => .cons (dv_same e h) (dvAll_same e t)
end
mutual
theorem Dv.dp {K : PySem.W.Frag} {H : Hp} : ∀ {d : PyData} {v : V}, Dv H v d → Dp K H v d
  | _, _, .non => .non
  | _, _, .bl b => .bl b
  | _, _, .int i => .int i
  | _, _, .str x => .str x
  | _, _, .lst h a => .lst (SqL.of h) (DvAll.dp a)
  | _, _, .tup h a => .tup (SqT.of h) (DvAll.dp a)
theorem DvAll.dp {K : PySem.W.Frag} {H : Hp} : ∀ {ds : List PyData} {vs : List V}, DvAll H vs ds → DpAll K H vs ds
  | _, _, .nil => .nil
  | _, _, .cons h t => .cons (Dv.dp h) (DvAll.dp t)
end
theorem DvAll.len {H : Hp} : ∀ {ds : List PyData} {vs : List V}, DvAll H vs ds → vs.length = ds.length
  | _, _, .nil => rfl
  | _, _, .cons _ t => by simp [t.len]
theorem DvAll.get {H : Hp} : ∀ {ds : List PyData} {vs : List V} {i : Nat} {v : V}, DvAll H vs ds → vs[i]? = some v → ∃ d, ds[i]? = some d ∧ Dv H v d
  | _, _, _, _, .nil, e => by simp at e
  | _, _, 0, _, .cons h _, e => by simp at e; subst e; exact ⟨_, rfl, h⟩
  | _, _, i + 1, v, .cons _ t, e => by
    obtain ⟨d, h1, h2⟩ := DvAll.get (i := i) (v := v) t (by simpa using e)
    exact ⟨d, by simpa using h1, h2⟩
theorem DvAll.ints {H : Hp} : ∀ ns : List Int, DvAll H (ns.map V.int) (ns.map PyData.int)
  | [] => .nil
  | n :: ns => .cons (.int n) (DvAll.ints ns)
/-! how deep data are: scalars 0 -/
mutual
def dpt : PyData → Nat
  | .list ds => dptAll ds + 1
  | .tuple ds => dptAll ds + 1
  | _ => 0
def dptAll : List PyData → Nat
  | [] => 0
  | d :: ds => max (dpt d) (dptAll ds)
end
theorem dpt_mem : ∀ {ds : List PyData} {i : Nat} {d : PyData}, ds[i]? = some d → dpt d ≤ dptAll ds
  | [], i, d, e => by simp at e
  | x :: ds, 0, d, e => by simp at e; subst e; simp only [dptAll]; omega
  | x :: ds, i + 1, d, e => by
    have := dpt_mem (ds := ds) (i := i) (d := d) (by simpa using e)
    simp only [dptAll]; omega
/-! ### isinstance -/
def tyD : PyData → String
  | .none => "NoneType"
  | .bool _ => "bool"
  | .int _ => "int"
  | .str _ => "str"
  | .list _ => "list"
  | .tuple _ => "tuple"
  | _ => ""
theorem Dv.ty {K : PySem.W.Frag} {H : Hp} {d : PyData} {v : V} (h : Dv H v d) : TyX K H v (.type (tyD d)) := by
  cases h with
  | non => exact .base .non
  | bl b => exact .base (.bl b)
  | int i => exact .base (.int i)
  | str x => exact .base (.str x)
  | lst h _ => exact .base (.lst h)
  | tup h _ => exact .base (.tup h)
theorem z_isi {K : PySem.W.Frag} {H : Hp} {Q : VK} {x : V} {a n : String} {b : Bool} (ty : TyX K H x (.type a)) (e : kitB a n = some b) (k : Q (.bl b) H) : rIsi K [x, .ty n] H Q := ⟨x, .ty n, .type a, .type n, b, rfl, .ty n, ty, kit_ty e, k⟩
section
variable {K : PySem.W.Frag} {H : Hp} {Q : VK} {n : String} {a : Addr} {xs : List V}
theorem z_isI {i : Int} (b : Bool) (e : kitB "int" n = some b) (k : Q (.bl b) H) : rIsi K [.int i, .ty n] H Q := z_isi (.base (.int i)) e k
theorem z_isNn (b : Bool) (e : kitB "NoneType" n = some b) (k : Q (.bl b) H) : rIsi K [.non, .ty n] H Q := z_isi (.base .non) e k
theorem z_isBl {i : Bool} (b : Bool) (e : kitB "bool" n = some b) (k : Q (.bl b) H) : rIsi K [.bl i, .ty n] H Q := z_isi (.base (.bl i)) e k
theorem z_isS {i : Str} (b : Bool) (e : kitB "str" n = some b) (k : Q (.bl b) H) : rIsi K [.str i, .ty n] H Q := z_isi (.base (.str i)) e k
theorem z_isT (b : Bool) (h : H a = some (.tup xs)) (e : kitB "tuple" n = some b) (k : Q (.bl b) H) : rIsi K [.ref a, .ty n] H Q := z_isi (.base (.tup h)) e k
theorem z_isL (b : Bool) (h : H a = some (.lst xs)) (e : kitB "list" n = some b) (k : Q (.bl b) H) : rIsi K [.ref a, .ty n] H Q := z_isi (.base (.lst h)) e k
end
/-! ### len, items, lists -/
def rLenU (K : PySem.W.Frag) : List V → Hp → VK → Prop := fun xs H Q => ∃ x n, xs = [x] ∧ LenV K x H n ∧ Q (.int n) H
theorem call_lenU {X : Cx} : CallR X (.builtin "len") (rLenU X.K) := call_len
def rLstU (K : PySem.W.Frag) : List V → Hp → VK → Prop := fun xs H Q => ∃ p ys, xs = [.ref p] ∧ (SqL K H p ys ∨ SqT K H p ys) ∧ ∀ l, H l = none → Q (.ref l) (upd H l (.lst ys))
theorem call_listU {X : Cx} : CallR X (.type "list") (rLstU X.K) := call_list_of
def rTupU (K : PySem.W.Frag) : List V → Hp → VK → Prop := fun xs H Q => ∃ p ys, xs = [.ref p] ∧ ((SqL K H p ys ∧ ∀ l, H l = none → Q (.ref l) (upd H l (.tup ys))) ∨ (SqT K H p ys ∧ Q (.ref p) H))
theorem call_tupleU {X : Cx} : CallR X (.type "tuple") (rTupU X.K) := call_tuple_of
def rAbs : List V → Hp → VK → Prop := fun xs H Q => ∃ i, xs = [.int i] ∧ Q (.int (if i < 0 then -i else i)) H
theorem call_absU {X : Cx} : CallR X (.builtin "abs") rAbs := call_abs
def rInt1 : List V → Hp → VK → Prop := fun xs H Q => (∃ i, xs = [.int i] ∧ Q (.int i) H) ∨ ∃ k, xs = [.bl k] ∧ Q (.int (if k then 1 else 0)) H
theorem call_intU {X : Cx} : CallR X (.type "int") rInt1 := call_int1
section
variable {K : PySem.W.Frag} {H : Hp} {Q : VK} {a l : Addr} {xs : List V} {v y : V} {i : Int}
theorem z_lenL (h : SqL K H a xs) (k : Q (.int (xs.length : Nat)) H) : rLenU K [.ref a] H Q := ⟨.ref a, _, rfl, .inl ⟨_, h, rfl⟩, k⟩
theorem z_lenT (h : SqT K H a xs) (k : Q (.int (xs.length : Nat)) H) : rLenU K [.ref a] H Q := ⟨.ref a, _, rfl, .inr ⟨_, h, rfl⟩, k⟩
theorem z_lenS {z : Str} (h : z.length ≤ sizeLine) (k : Q (.int (z.length : Nat)) H) : rLenU K [.str z] H Q := ⟨.str z, _, rfl, ⟨h, rfl⟩, k⟩
theorem z_listL (h : SqL K H a xs) (k : ∀ l, H l = none → Q (.ref l) (upd H l (.lst xs))) : rLstU K [.ref a] H Q := ⟨a, xs, rfl, .inl h, k⟩
theorem z_listT (h : SqT K H a xs) (k : ∀ l, H l = none → Q (.ref l) (upd H l (.lst xs))) : rLstU K [.ref a] H Q := ⟨a, xs, rfl, .inr h, k⟩
theorem z_tupL (h : SqL K H a xs) (k : ∀ l, H l = none → Q (.ref l) (upd H l (.tup xs))) : rTupU K [.ref a] H Q := ⟨a, xs, rfl, .inl ⟨h, k⟩⟩
theorem z_new {o : HO} (k : ∀ p H2, Same H H2 → H p = none → H2 p = some o → Q (.ref p) H2) : ∀ p, H p = none → Q (.ref p) (upd H p o) := fun p hp => k p _ (Same.new hp) hp upd_same
theorem z_newD {o : HO} {c : Prop} (hc : c) (k : ∀ p H2, Same H H2 → H p = none → H2 p = some o → Q (.ref p) H2) : c ∧ ∀ p, H p = none → Q (.ref p) (upd H p o) := ⟨hc, z_new k⟩
theorem new_same {p : Addr} {o : HO} {H2 : Hp} (hp : H p = none) (e : upd H p o = H2) : Same H H2 := e ▸ Same.new hp
theorem new_at {p : Addr} {o : HO} {H2 : Hp} (e : upd H p o = H2) : H2 p = some o := e ▸ upd_same
theorem same_to {H H' : Hp} {a : Addr} {o : HO} (s : Same H H') (h : H a = some o) : H' a = some o := s _ _ h
theorem z_abs (k : Q (.int (if i < 0 then -i else i)) H) : rAbs [.int i] H Q := ⟨i, rfl, k⟩
theorem z_int1 (k : Q (.int i) H) : rInt1 [.int i] H Q := .inl ⟨i, rfl, k⟩
theorem z_intB {b : Bool} (k : Q (.int (if b then 1 else 0)) H) : rInt1 [.bl b] H Q := .inr ⟨b, rfl, k⟩
theorem z_ixL (h : SqL K H a xs) (e : atI xs i = some v) (k : Q v H) : rIx K (.ref a) (.int i) H Q := .inl ⟨a, xs, i, v, rfl, rfl, h, e, k⟩
theorem z_ixT (h : SqT K H a xs) (e : atI xs i = some v) (k : Q v H) : rIx K (.ref a) (.int i) H Q := .inr (.inl ⟨a, xs, i, v, rfl, rfl, h, e, k⟩)
theorem z_tyL {B : Prop} (h : SqL K H a xs) (k : B) : tyV K "list" (.ref a) H ∧ B := ⟨.inl ⟨rfl, _, h⟩, k⟩
theorem z_bm {T : String} {r : V → List V → Hp → VK → Prop} {to : TE} {t : TA} {σ : L2.St} (h : to σ H fun x H1 => tyV K T x H1 ∧ t σ H1 fun xs H2 => r x xs H2 Q) : tBM K T r to t σ H Q := h
theorem z_bm0 {T : String} {r : V → List V → Hp → VK → Prop} {to : TE} {σ : L2.St} (h : to σ H fun x H1 => tyV K T x H1 ∧ r x [] H1 Q) : tBM0 K T r to σ H Q := h
theorem z_app (h : H l = some (.lst xs)) (c : xs.length < sizeLine) (k : Q .non (upd H l (.lst (xs ++ [y])))) : rAppend (.ref l) [y] H Q := ⟨l, xs, y, rfl, rfl, h, c, k⟩
theorem atI_of {n : Nat} (h : xs[n]? = some v) (e : i = (n : Int)) : atI xs i = some v := by rw [e]; exact atI_nat h
/-! a method's call, an attribute -/
theorem z_fld {ta : TE} {σ : L2.St} {f : Str} (h : ta σ H fun x H1 => ∃ a C dx fs v, x = .ref a ∧ H1 a = some (.ins C dx fs) ∧ Cls K C ∧ NoAttr K C f ∧ fs.lookup f = some v ∧ Q v H1) : tFld K ta f σ H Q := h
theorem z_fldR {C dx : Addr} {fs : List (Str × V)} {f : Str} (h : H a = some (.ins C dx fs)) (c : Cls K C) (n : NoAttr K C f) (e : fs.lookup f = some v) (k : Q v H) :
    ∃ a' C dx fs v, V.ref a = .ref a' ∧ H a' = some (.ins C dx fs) ∧ Cls K C ∧ NoAttr K C f ∧ fs.lookup f = some v ∧ Q v H := ⟨a, C, dx, fs, v, rfl, h, c, n, e, k⟩
theorem z_meth {C : Addr} {m : Str} {sp : Sp} {E : XK} {ta : TE} {t : TA} {σ : L2.St} (h : ta σ H fun x H1 => ∃ a dx fs, x = .ref a ∧ H1 a = some (.ins C dx fs) ∧ fs.lookup m = none ∧ t σ H1 fun vs H2 => sp (x :: (vs ++ [])) H2 Q E) : tMeth C m sp [] E ta t σ H Q := h
theorem z_methR {C dx : Addr} {m : Str} {fs : List (Str × V)} {R : Prop} (h : H a = some (.ins C dx fs)) (e : fs.lookup m = none) (k : R) : ∃ a' dx fs, V.ref a = .ref a' ∧ H a' = some (.ins C dx fs) ∧ fs.lookup m = none ∧ R := ⟨a, dx, fs, rfl, h, e, k⟩
end
/-! loops, tuple targets -/
section
variable {K : PySem.W.Frag} {σ σ' : L2.St} {H : Hp} {D : Ends} {GQ : L2.St → Hp → Prop}
theorem z_for {wi : TI} {g : TG} {tb : TS} (h : wi σ H fun J H1 => ∃ W : Nat → Nat → L2.St → Hp → Prop, (∃ m, W 0 m σ H1) ∧ ∀ i m σ H, W i m σ H →
  (J.stop i H ∧ D.nx σ H) ∨ (J.go i H ∧ ∃ N : L2.St → Hp → Prop, (∀ σ' H', N σ' H' → ∃ m', m' < m ∧ W (i + 1) m' σ' H') ∧ ∀ x H', J.yld i H x H' → g x σ H' fun σ2 H2 => tb { D with nx := N, ct := N, bk := D.nx } σ2 H2)) : tFor wi g tb D σ H := h
theorem z_zipA {ta : TA} {R : It → Hp → Prop} (h : ta σ H fun vs H1 => ∃ a b xs ys, vs = [.ref a, .ref b] ∧ ((SqL K H1 a xs ∧ SqL K H1 b ys ∧ R (Itz K a b) H1) ∨ (SqT K H1 a xs ∧ SqT K H1 b ys ∧ R (RZ.ItzT K a b) H1))) : RZ.iZipA K ta σ H R := h
theorem z_iList {tl : TE} {R : It → Hp → Prop} (h : tl σ H fun x H1 => ∃ a, x = .ref a ∧ (∃ xs, SqL K H1 a xs) ∧ R (Itl K a) H1) : iList K tl σ H R := h
theorem z_iTup {tl : TE} {R : It → Hp → Prop} (h : tl σ H fun x H1 => ∃ a, x = .ref a ∧ (∃ xs, SqT K H1 a xs) ∧ R (Itt K a) H1) : iTup K tl σ H R := h
theorem z_rng1 {ta : TA} {R : It → Hp → Prop} (h : ta σ H fun vs H1 => ∃ j : Int, vs = [.int j] ∧ -(2 ^ 62) ≤ j ∧ j < 2 ^ 62 ∧ R (Itr 0 j.toNat) H1) : iRng1 ta σ H R := h
theorem z_rng2 {ta : TA} {R : It → Hp → Prop} (h : ta σ H fun vs H1 => ∃ i j : Int, vs = [.int i, .int j] ∧ (-(2 ^ 62) ≤ i ∧ i < 2 ^ 62 ∧ -(2 ^ 62) ≤ j ∧ j < 2 ^ 62) ∧ R (Itr i (j - i).toNat) H1) : iRng2 ta σ H R := h
theorem z_gTup {n : Nat} {t : TGs} {a : Addr} {xs : List V} (h : SqT K H a xs) (e : xs.length = n) (k : t xs σ H GQ) : gTup K n t (.ref a) σ H GQ := ⟨a, xs, rfl, h, e, k⟩
theorem z_gCons {t : TG} {u : TGs} {v : V} {r : List V} (k : t v σ H fun σ' H' => u r σ' H' GQ) : gCons t u (v :: r) σ H GQ := ⟨v, r, rfl, k⟩
theorem z_gNil (k : GQ σ H) : gNil [] σ H GQ := ⟨rfl, k⟩
theorem z_ntrue {A B : Prop} (k : B) : if (!true) = true then A else B := iteF k
theorem z_nfalse {A B : Prop} (k : A) : if (!false) = true then A else B := iteT k
end
/-! equal data -/
theorem z_eqSame {K : PySem.W.Frag} {H : Hp} {Q : VK} {x y : V} {d : PyData} (hx : Dv H x d) (hy : Dv H y d) (hs : SeqAt.shaped d = true) (he : PyData.eqv d d = true) (k : Q (.bl true) H) : rEqU K x y H Q := .inr ⟨d, d, hx.dp, hy.dp, hs, hs, by rw [he]; exact k⟩
theorem z_neSame {K : PySem.W.Frag} {H : Hp} {Q : VK} {x y : V} {d : PyData} (hx : Dv H x d) (hy : Dv H y d) (hs : SeqAt.shaped d = true) (he : PyData.eqv d d = true) (k : Q (.bl false) H) : rNeU K x y H Q := .inr ⟨d, d, hx.dp, hy.dp, hs, hs, by rw [he]; exact k⟩
theorem mulS {i j : Int} (h1 : i.natAbs < 2 ^ 64) (h2 : j.natAbs < 2 ^ 64) : CMulX i j := mulx_ok h1 h2 (by decide)
theorem sz1000 {n : Nat} (h : n ≤ 100000) : n ≤ sizeLine := Nat.le_trans h (by decide)
theorem szlt {n : Nat} (h : n < 100000) : n < sizeLine := Nat.lt_of_lt_of_le h (by decide)
/-! a def that is never reached, recursion by levels -/
theorem Fk.no {P : Program} {w : World} {K : PySem.W.Frag} {mg : Str → Option Value} {base : Heap} {ps : List Str} {x qual : Str} {params : Arguments} {body : List Stmt} {scope : Scope} {f : Addr} {sp : Sp} (F : ∃ fd, FunD K x qual params body scope [] [] f fd)
    (hb : ∀ (kV doc pm : Value) (an : Option Addr) (cdv ct : Value) (us : List Value), us.length = ps.length → bindArgs (PySem.W.fnOf x qual params body scope .none kV doc pm an cdv ct) ⟨us, []⟩ = pure (ps.zip us)) (hn : ∀ vs H Q E, ¬ sp vs H Q E) :
    Fk P w K mg base 0 f ps sp := by
  obtain ⟨fd, F⟩ := F
  exact ⟨⟨fd, ⟨fun vs H Q E h => absurd h (hn vs H Q E), fun _ _ _ _ _ _ _ _ _ _ _ _ _ h => absurd h (hn _ _ _ _)⟩, F.bindsN hb⟩, F.kp⟩
end Mur
namespace Mur
open PySem hiding start
open PySem.Spec L2
open PyProof.Rows hiding St
local macro_rules | `(tactic| walk_at "z1") => `(tactic| first
  | ((with_reducible refine' z_start ?zt ?_); (case zt => repeat constructor))
  | with_reducible refine z_seq ?_ | with_reducible refine z_asg ?_ | with_reducible refine z_op ?_ | ((with_reducible refine' z_var ?zv ?_); (case zv => exact rfl)) | with_reducible refine z_c ?_
  | with_reducible refine z_cons ?_ | with_reducible refine z_nil ?_ | with_reducible refine z_addI ?_ | with_reducible refine z_I0 ?_ | with_reducible refine z_eqI ?_ | with_reducible refine z_neI ?_ | with_reducible refine z_isN ?_ | with_reducible refine z_isB ?_
  | with_reducible refine z_eqS ?_ | with_reducible refine z_neS ?_ | with_reducible refine z_tTest ?_ | with_reducible refine z_tB ?_ | with_reducible refine z_bl ?_ | with_reducible refine z_blQ ?_
  | ((with_reducible refine' z_name ?zs ?_); (case zs => repeat constructor)) | with_reducible refine z_next ?_ | with_reducible refine z_if ?_ | with_reducible refine z_ret ?_ | with_reducible refine z_retN ?_ | with_reducible refine z_drop ?_
  | with_reducible refine z_call ?_ | with_reducible refine z_callS ?_ | with_reducible refine z_cb ?_ | with_reducible refine z_and ?_ | with_reducible refine z_or ?_ | with_reducible refine z_not ?_ | with_reducible refine z_un ?_ | with_reducible refine z_U ?_ | with_reducible refine z_tup ?_ | with_reducible refine z_lst ?_
  | with_reducible refine z_par ?_ | ((with_reducible refine' z_par2 ?za ?zb ?_); (case za => repeat constructor); (case zb => repeat constructor))
  | with_reducible refine z_andV ?_ | with_reducible refine z_orV ?_ | with_reducible refine z_notV ?_ | with_reducible refine z_ifE ?_ | with_reducible refine z_chain ?_
  | with_reducible refine z_bm ?_ | with_reducible refine z_bm0 ?_ | with_reducible refine z_fld ?_ | with_reducible refine z_meth ?_ | with_reducible refine z_abs ?_ | with_reducible refine z_int1 ?_ | with_reducible refine z_intB ?_
  | with_reducible refine iteT ?_ | with_reducible refine iteF ?_ | with_reducible refine z_ntrue ?_ | with_reducible refine z_nfalse ?_ | with_reducible refine z_for ?_ | with_reducible refine z_zipA ?_ | with_reducible refine z_iList ?_ | with_reducible refine z_iTup ?_ | with_reducible refine z_rng1 ?_ | with_reducible refine z_rng2 ?_ | with_reducible refine z_gCons ?_ | with_reducible refine z_gNil ?_)
local macro_rules | `(tactic| walk_at "z") => `(tactic| repeat walk_at "z1")
local macro_rules | `(tactic| walk_at "hs") => `(tactic| repeat (first | assumption | exact upd_same | refine same_to (by assumption) ?_))
local macro_rules | `(tactic| walk_at "zn") => `(tactic| (intro p hp; generalize hH : upd _ p _ = H2; have hs2 := new_same hp hH; have he2 := new_at hH; clear hH))
local macro_rules | `(tactic| walk_at "zt") => `(tactic| (refine ⟨sz1000 (by simp), ?_⟩; walk_at "zn"))
def top (i : Nat) : Stmt := PySem.Challenge.pw_murrine_k02_turnings_make_a_group.main.body.getD i (.Pass ⟨0, 0, 0, 0⟩)
abbrev safter : Stmt := top 1
abbrev sback_of : Stmt := top 2
abbrev sgoes_to : Stmt := top 3
abbrev s_law_cell : Stmt := top 5
abbrev s_law_whole : Stmt := top 6
abbrev s_law_like : Stmt := top 7
abbrev slaw : Stmt := top 8
structure Tx (K : PySem.W.Frag) (mg : Str → Option Value) : Prop where
  gafter : mg "after" = some (.ref (He.ga K "after"))
  gback_of : mg "back_of" = some (.ref (He.ga K "back_of"))
  ggoes_to : mg "goes_to" = some (.ref (He.ga K "goes_to"))
  g_law_cell : mg "_law_cell" = some (.ref (He.ga K "_law_cell"))
  g_law_whole : mg "_law_whole" = some (.ref (He.ga K "_law_whole"))
  g_law_like : mg "_law_like" = some (.ref (He.ga K "_law_like"))
  glaw : mg "law" = some (.ref (He.ga K "law"))
  ubool : mg "bool" = none
  uint : mg "int" = none
  uisinstance : mg "isinstance" = none
  ulen : mg "len" = none
  ulist : mg "list" = none
  urange : mg "range" = none
  ustr : mg "str" = none
  utuple : mg "tuple" = none
  uzip : mg "zip" = none
  fafter : ∃ fd, FunD K "after" "after" (defArgs safter) (defBody safter) (defScope safter) [] [] (He.ga K "after") fd
  fback_of : ∃ fd, FunD K "back_of" "back_of" (defArgs sback_of) (defBody sback_of) (defScope sback_of) [] [] (He.ga K "back_of") fd
  fgoes_to : ∃ fd, FunD K "goes_to" "goes_to" (defArgs sgoes_to) (defBody sgoes_to) (defScope sgoes_to) [] [] (He.ga K "goes_to") fd
  f_law_cell : ∃ fd, FunD K "_law_cell" "_law_cell" (defArgs s_law_cell) (defBody s_law_cell) (defScope s_law_cell) [] [] (He.ga K "_law_cell") fd
  f_law_whole : ∃ fd, FunD K "_law_whole" "_law_whole" (defArgs s_law_whole) (defBody s_law_whole) (defScope s_law_whole) [] [] (He.ga K "_law_whole") fd
  f_law_like : ∃ fd, FunD K "_law_like" "_law_like" (defArgs s_law_like) (defBody s_law_like) (defScope s_law_like) [] [] (He.ga K "_law_like") fd
  flaw : ∃ fd, FunD K "law" "law" (defArgs slaw) (defBody slaw) (defScope slaw) [] [] (He.ga K "law") fd
def spLaw (K : PySem.W.Frag) : Sp := fun vs H Q _ => ∃ (a : Addr) (ns : List Int), vs = [.ref a] ∧ SqL K H a (ns.map V.int) ∧ ns.length ≤ 63 ∧ (∀ z ∈ ns, Builtin.Int.intBits z ≤ 1048576) ∧ ∀ H', Q (.bl true) H'

def dafter : He.DefD := ⟨("after", none), "after", "after", defArgs safter, defBody safter, defScope safter, [], []⟩
def dback_of : He.DefD := ⟨("back_of", none), "back_of", "back_of", defArgs sback_of, defBody sback_of, defScope sback_of, [], []⟩
def dgoes_to : He.DefD := ⟨("goes_to", none), "goes_to", "goes_to", defArgs sgoes_to, defBody sgoes_to, defScope sgoes_to, [], []⟩
def d_law_cell : He.DefD := ⟨("_law_cell", none), "_law_cell", "_law_cell", defArgs s_law_cell, defBody s_law_cell, defScope s_law_cell, [], []⟩
def d_law_whole : He.DefD := ⟨("_law_whole", none), "_law_whole", "_law_whole", defArgs s_law_whole, defBody s_law_whole, defScope s_law_whole, [], []⟩
def d_law_like : He.DefD := ⟨("_law_like", none), "_law_like", "_law_like", defArgs s_law_like, defBody s_law_like, defScope s_law_like, [], []⟩
def dlaw : He.DefD := ⟨("law", none), "law", "law", defArgs slaw, defBody slaw, defScope slaw, [], []⟩
def hfn0 : List He.DefD := [dafter, dback_of, dgoes_to, d_law_cell, d_law_whole, d_law_like, dlaw]
def hfn : List He.DefD := hfn0
def hfa0 : List He.Fa := [.glo "after", .glo "back_of", .glo "goes_to", .glo "_law_cell", .glo "_law_whole", .glo "_law_like", .glo "law", .free "bool", .free "int", .free "isinstance", .free "len", .free "list", .free "range", .free "str", .free "tuple", .free "zip"]
def hfa : List He.Fa := hfa0
def hloose0 : List Str := ["after", "back_of", "goes_to", "_law_cell", "_law_whole", "_law_like"]
def hloose : List Str := hloose0
abbrev hR : PySem.W.OpenRow := PySem.W.OpenLaw.row PySem.Challenge.rw_murrine_k02_turnings_make_a_group
abbrev hk : PySem.W.Hook := He.hookD 4 hfa hfn
def hob (s : PySem.W.SharedT) : He.AlD := He.obsDG 4 hfa hfn (HandSHeadRun.getT s)
theorem hob_eq (s : PySem.W.SharedT) : hob s = hk.obs s.abs := He.obsDG_eq (HandSHeadRun.getT_eq s)
abbrev hRun (w : World) : Prop := HandSHeadRun.RunEq hR (PySem.W.view hR.prog [8]) hk hob 3000 hloose w
theorem hrun (w : World) : hRun w := by
  intro os
  kernel_rfl
theorem tx_of {K : PySem.W.Frag} {h : Heap} {mg : Str → Option Value} (X : K.In h) (G : h.Ns mainGlobals mg) (c : He.SaysD hfa hfn K) : Tx K mg where
  gafter := He.glo_ok X G (c.fact 0 rfl)
  gback_of := He.glo_ok X G (c.fact 1 rfl)
  ggoes_to := He.glo_ok X G (c.fact 2 rfl)
  g_law_cell := He.glo_ok X G (c.fact 3 rfl)
  g_law_whole := He.glo_ok X G (c.fact 4 rfl)
  g_law_like := He.glo_ok X G (c.fact 5 rfl)
  glaw := He.glo_ok X G (c.fact 6 rfl)
  ubool := He.free_ok X G (c.fact 7 rfl)
  uint := He.free_ok X G (c.fact 8 rfl)
  uisinstance := He.free_ok X G (c.fact 9 rfl)
  ulen := He.free_ok X G (c.fact 10 rfl)
  ulist := He.free_ok X G (c.fact 11 rfl)
  urange := He.free_ok X G (c.fact 12 rfl)
  ustr := He.free_ok X G (c.fact 13 rfl)
  utuple := He.free_ok X G (c.fact 14 rfl)
  uzip := He.free_ok X G (c.fact 15 rfl)
  fafter := c.def_ 0 (d := dafter) rfl
  fback_of := c.def_ 1 (d := dback_of) rfl
  fgoes_to := c.def_ 2 (d := dgoes_to) rfl
  f_law_cell := c.def_ 3 (d := d_law_cell) rfl
  f_law_whole := c.def_ 4 (d := d_law_whole) rfl
  f_law_like := c.def_ 5 (d := d_law_like) rfl
  flaw := c.def_ 6 (d := dlaw) rfl
def afterI (a b : Int) : Int := (if 3 < b then b % 4 - a % 4 else a % 4 + b % 4) % 4 + 4 * ((a / 4 + b / 4) % 2)
def spAfter : Sp := fun vs H Q _ => ∃ a b : Int, vs = [.int a, .int b] ∧ Q (.int (afterI a b)) H
abbrev nafter : List Str := ["one", "other", "rounds", "sides"]
abbrev pafter : List Str := ["one", "other"]
theorem scafter : FnScope nafter pafter (defScope safter) := ⟨rfl, rfl, rfl, by decide +kernel, rfl, by decide +kernel, by decide +kernel⟩
theorem ok_after {P : Program} {w : World} {K : PySem.W.Frag} {mg : Str → Option Value} {base : Heap} (T : Tx K mg) : Fk P w K mg base 1 (He.ga K "after") pafter (spAfter) := by
  refine Fk.mk' T.fafter scafter (fun _ _ _ _ _ _ us hl => match us, hl with | [_, _], _ => rfl) (by
  intro vs H Q E h
  repeat (first | (obtain ⟨h1, _⟩ := h; subst h1; rfl) | (obtain ⟨_, h⟩ := h))) (fun cdv A outer s H vs Q E hr h => ?_)
  have hu := hu_of hr
  have hu64 := hr.units
  refine ⟨_, (pss_cons (ps_set (i := 2) scafter.nd rfl (Or.inl rfl) (pe_op op_addU (pe_op op_mod (pv 0) pe_int) (pe_op op_mod (pv 1) pe_int)))
  (pss_cons (ps_if (pt_cmpR op_gt (pv 1) pe_int (nomark _)) (pss_one (ps_set (i := 2) scafter.nd rfl (Or.inl rfl) (pe_op op_sub (pe_op op_mod (pv 1) pe_int) (pe_op op_mod (pv 0) pe_int)))) pss_nil)
  (pss_cons (ps_set (i := 3) scafter.nd rfl (Or.inl rfl) (pe_op op_mod (pe_op op_addU (pe_op op_fdivW (pv 0) pe_int) (pe_op op_fdivW (pv 1) pe_int)) pe_int))
  (pss_one (ps_ret (pe_op op_addU (pe_op op_mod (pv 2) pe_int) (pe_op op_mulU pe_int (pv 3)))))))), ?_⟩
  obtain ⟨a, b, rfl, q⟩ := h
  have s0 : 0 ≤ (a / 4 + b / 4) % 2 := Int.emod_nonneg _ (by decide)
  have s1 : (a / 4 + b / 4) % 2 < 2 := Int.emod_lt_of_pos _ (by decide)
  unfold afterI at q
  walk_at "z"
  refine z_I (by decide) ?_
  walk_at "z"
  refine z_I (by decide) ?_
  walk_at "z"
  refine z_ite (fun c => ?_) (fun c => ?_)
  · rw [if_pos c] at q
    walk_at "z"
    refine z_I (by decide) ?_
    walk_at "z"
    refine z_I (by decide) ?_
    walk_at "z"
    refine z_I ⟨by decide, by decide⟩ ?_
    walk_at "z"
    refine z_I ⟨by decide, by decide⟩ ?_
    walk_at "z"
    refine z_I (by decide) ?_
    walk_at "z"
    refine z_I (by decide) ?_
    walk_at "z"
    refine z_mulI (mulS (by decide) (by omega)) ?_
    walk_at "z"
    exact q
  · rw [if_neg c] at q
    walk_at "z"
    refine z_I ⟨by decide, by decide⟩ ?_
    walk_at "z"
    refine z_I ⟨by decide, by decide⟩ ?_
    walk_at "z"
    refine z_I (by decide) ?_
    walk_at "z"
    refine z_I (by decide) ?_
    walk_at "z"
    refine z_mulI (mulS (by decide) (by omega)) ?_
    walk_at "z"
    exact q
def backOf (t : Int) : Int := if 3 < t then t else (0 - t) % 4
def spBack : Sp := fun vs H Q _ => ∃ t : Int, vs = [.int t] ∧ Q (.int (backOf t)) H
abbrev nback_of : List Str := ["turning"]
abbrev pback_of : List Str := ["turning"]
theorem scback_of : FnScope nback_of pback_of (defScope sback_of) := ⟨rfl, rfl, rfl, by decide +kernel, rfl, by decide +kernel, by decide +kernel⟩
theorem ok_back_of {P : Program} {w : World} {K : PySem.W.Frag} {mg : Str → Option Value} {base : Heap} (T : Tx K mg) : Fk P w K mg base 1 (He.ga K "back_of") pback_of (spBack) := by
  refine Fk.mk' T.fback_of scback_of (fun _ _ _ _ _ _ us hl => match us, hl with | [_], _ => rfl) (by
  intro vs H Q E h
  repeat (first | (obtain ⟨h1, _⟩ := h; subst h1; rfl) | (obtain ⟨_, h⟩ := h))) (fun cdv A outer s H vs Q E hr h => ?_)
  have hu := hu_of hr
  have hu64 := hr.units
  refine ⟨_, (pss_cons (ps_if (pt_cmpR op_gt (pv 0) pe_int (nomark _)) (pss_one (ps_ret (pv 0))) pss_nil)
  (pss_one (ps_ret (pe_op op_mod (pe_op op_sub pe_int (pv 0)) pe_int)))), ?_⟩
  obtain ⟨t, rfl, q⟩ := h
  walk_at "z"
  refine z_ite (fun c => ?_) (fun c => ?_)
  · walk_at "z"
    rw [backOf, if_pos c] at q
    exact q
  · walk_at "z"
    refine z_I (by decide) ?_
    rw [backOf, if_neg c] at q
    exact q
def rot (n : Int) (p : Int × Int) : Int × Int := (n - 1 - p.2, p.1)
def rots (n : Int) : Nat → Int × Int → Int × Int
  | 0, p => p
  | k + 1, p => rot n (rots n k p)
def goesTo (t n x y : Int) : Int × Int := rots n (t % 4).toNat (if 3 < t then (n - 1 - x, y) else (x, y))
def spGoes : Sp := fun vs H Q _ => ∃ t n x y : Int, vs = [.int t, .int n, .int x, .int y] ∧ ∀ p, H p = none → Q (.ref p) (upd H p (.tup [.int (goesTo t n x y).1, .int (goesTo t n x y).2]))
abbrev ngoes_to : List Str := ["turning", "size", "x", "y", "step"]
abbrev pgoes_to : List Str := ["turning", "size", "x", "y"]
theorem scgoes_to : FnScope ngoes_to pgoes_to (defScope sgoes_to) := ⟨rfl, rfl, rfl, by decide +kernel, rfl, by decide +kernel, by decide +kernel⟩
theorem ok_goes_to {P : Program} {w : World} {K : PySem.W.Frag} {mg : Str → Option Value} {base : Heap} (T : Tx K mg) : Fk P w K mg base 1 (He.ga K "goes_to") pgoes_to (spGoes) := by
  refine Fk.mk' T.fgoes_to scgoes_to (fun _ _ _ _ _ _ us hl => match us, hl with | [_, _, _, _], _ => rfl) (by
  intro vs H Q E h
  repeat (first | (obtain ⟨h1, _⟩ := h; subst h1; rfl) | (obtain ⟨_, h⟩ := h))) (fun cdv A outer s H vs Q E hr h => ?_)
  have hu := hu_of hr
  have hu64 := hr.units
  refine ⟨_, (pss_cons (ps_if (pt_cmpR op_gt (pv 0) pe_int (nomark _)) (pss_one (ps_set (i := 2) scgoes_to.nd rfl (Or.inl rfl) (pe_op op_sub (pe_op op_sub (pv 1) pe_int) (pv 2)))) pss_nil)
  (pss_cons (ps_for (passes_of rfl) rfl (pi_range1 (by rfl) T.urange (pa_cons (pe_op op_mod (pv 0) pe_int) pa_nil)) (pg_name (i := 4) scgoes_to.nd rfl (Or.inl rfl)) (pss_one (ps_par (i := 2) (j := 3) (by rfl) scgoes_to.nd rfl rfl (by decide) rfl rfl (pa_cons (pe_op op_sub (pe_op op_sub (pv 1) pe_int) (pv 3)) (pa_cons (pv 2) pa_nil)) (by rfl))))
  (pss_one (ps_ret (pe_tup (pa_cons (pv 2) (pa_cons (pv 3) pa_nil))))))), ?_⟩
  obtain ⟨t, n, x, y, rfl, q⟩ := h
  walk_at "z"
  have h0 : 0 ≤ t % 4 := Int.emod_nonneg _ (by decide)
  have h4 : t % 4 < 4 := Int.emod_lt_of_pos _ (by decide)
  refine z_ite (fun c => ?_) (fun c => ?_)
  all_goals
    walk_at "z"
    refine z_I (by decide) ?_
    walk_at "z"
    refine ⟨_, rfl, by omega, by omega, ?_⟩
    refine for_range (fun i σ H' => H' = H ∧ ∃ st, σ = [some (.int t), some (.int n), some (.int (rots n i (if 3 < t then (n - 1 - x, y) else (x, y))).1), some (.int (rots n i (if 3 < t then (n - 1 - x, y) else (x, y))).2), st]) ⟨rfl, none, by simp [rots, c]⟩ ?_ ?_
    · rintro i σ H' hi ⟨rfl, st, rfl⟩
      walk_at "z"
      exact ⟨rfl, _, rfl⟩
    · rintro σ H' ⟨rfl, st, rfl⟩
      walk_at "z"
      exact ⟨sz1000 (by simp), fun p hp => q p hp⟩
def cell (ns : List Int) (k : Nat) : Int := ns.getD k 0
def spCell (K : PySem.W.Frag) : Sp := fun vs H Q _ => ∃ (a : Addr) (ns : List Int) (k : Nat), vs = [.ref a, .int k] ∧ SqL K H a (ns.map V.int) ∧ Q (.int (cell ns k)) H
abbrev n_law_cell : List Str := ["_law_script", "_law_k"]
abbrev p_law_cell : List Str := ["_law_script", "_law_k"]
theorem sc_law_cell : FnScope n_law_cell p_law_cell (defScope s_law_cell) := ⟨rfl, rfl, rfl, by decide +kernel, rfl, by decide +kernel, by decide +kernel⟩
theorem ok__law_cell {P : Program} {w : World} {K : PySem.W.Frag} {mg : Str → Option Value} {base : Heap} (T : Tx K mg) : Fk P w K mg base 1 (He.ga K "_law_cell") p_law_cell (spCell K) := by
  refine Fk.mk' T.f_law_cell sc_law_cell (fun _ _ _ _ _ _ us hl => match us, hl with | [_, _], _ => rfl) (by
  intro vs H Q E h
  repeat (first | (obtain ⟨h1, _⟩ := h; subst h1; rfl) | (obtain ⟨_, h⟩ := h))) (fun cdv A outer s H vs Q E hr h => ?_)
  have hu := hu_of hr
  have hu64 := hr.units
  refine ⟨_, (pss_cons (ps_if (pt_cmpR op_lt (pv 1) (pe_callB call_lenU (by rfl) T.ulen (by decide +kernel) (pa_cons (pv 0) pa_nil)) (nomark _)) (pss_one (ps_ret (pe_ix ix_seq (pv 0) (pv 1) (fun _ _ => rfl)))) pss_nil)
  (pss_one (ps_ret pe_int))), ?_⟩
  obtain ⟨a, ns, k, rfl, hs, q⟩ := h
  walk_at "z"
  refine z_lenL hs ?_
  walk_at "z"
  rw [List.length_map]
  refine z_ite (fun c => ?_) (fun c => ?_)
  · walk_at "z"
    refine z_ixL hs (atI_of (n := k) (v := .int (cell ns k)) ?_ rfl) q
    have hk : k < ns.length := by omega
    rw [List.getElem?_map, List.getElem?_eq_getElem hk]
    simp [cell, hk]
  · walk_at "z"
    have e : cell ns k = 0 := by simp [cell]; rw [List.getElem?_eq_none (by omega)]; rfl
    rw [e] at q
    exact q
def isWhole : PyData → Bool
  | .int _ => true
  | _ => false
def spWhole : Sp := fun vs H Q _ => ∃ x d, vs = [x] ∧ Dv H x d ∧ Q (.bl (isWhole d)) H
abbrev n_law_whole : List Str := ["_law_found"]
abbrev p_law_whole : List Str := ["_law_found"]
theorem sc_law_whole : FnScope n_law_whole p_law_whole (defScope s_law_whole) := ⟨rfl, rfl, rfl, by decide +kernel, rfl, by decide +kernel, by decide +kernel⟩
theorem ok__law_whole {P : Program} {w : World} {K : PySem.W.Frag} {mg : Str → Option Value} {base : Heap} (T : Tx K mg) : Fk P w K mg base 1 (He.ga K "_law_whole") p_law_whole (spWhole) := by
  refine Fk.mk' T.f_law_whole sc_law_whole (fun _ _ _ _ _ _ us hl => match us, hl with | [_], _ => rfl) (by
  intro vs H Q E h
  repeat (first | (obtain ⟨h1, _⟩ := h; subst h1; rfl) | (obtain ⟨_, h⟩ := h))) (fun cdv A outer s H vs Q E hr h => ?_)
  have hu := hu_of hr
  have hu64 := hr.units
  refine ⟨_, (pss_one (ps_ret (pe_and (pe_callB call_isi (by rfl) T.uisinstance (by decide +kernel) (pa_cons (pv 0) (pa_cons (pe_bltn (v := .ty "int") (by rfl) T.uint (by decide +kernel) rfl) pa_nil))) (pe_one (pe_not (pe_callB call_isi (by rfl) T.uisinstance (by decide +kernel) (pa_cons (pv 0) (pa_cons (pe_bltn (v := .ty "bool") (by rfl) T.ubool (by decide +kernel) rfl) pa_nil)))))))), ?_⟩
  obtain ⟨x, d, rfl, hd, q⟩ := h
  walk_at "z"
  cases hd with
  | int i =>
    refine z_isI true (by decide +kernel) ?_
    walk_at "z"
    refine z_isI false (by decide +kernel) ?_
    walk_at "z"
    exact q
  | non => exact z_isNn false (by decide +kernel) (by walk_at "z"; exact q)
  | bl b => exact z_isBl true (by decide +kernel) (by walk_at "z"; exact z_isBl true (by decide +kernel) (by walk_at "z"; exact q))
  | str x => exact z_isS false (by decide +kernel) (by walk_at "z"; exact q)
  | lst h1 h2 => exact z_isL false h1 (by decide +kernel) (by walk_at "z"; exact q)
  | tup h1 h2 => exact z_isT false h1 (by decide +kernel) (by walk_at "z"; exact q)
/-- the same data on both sides: True comes out -/
def spLike (n : Nat) : Sp := fun vs H Q _ => ∃ x y d, vs = [x, y] ∧ Dv H x d ∧ Dv H y d ∧ dpt d < n ∧ ∀ H', Same H H' → Q (.bl true) H'
abbrev n_law_like : List Str := ["_law_found", "_law_due", "_law_one", "_law_other"]
abbrev p_law_like : List Str := ["_law_found", "_law_due"]
theorem sc_law_like : FnScope n_law_like p_law_like (defScope s_law_like) := ⟨rfl, rfl, rfl, by decide +kernel, rfl, by decide +kernel, by decide +kernel⟩
theorem ok__law_like {P : Program} {w : World} {K : PySem.W.Frag} {mg : Str → Option Value} {base : Heap} (T : Tx K mg) : ∀ n : Nat, Fk P w K mg base (1 + n) (He.ga K "_law_like") p_law_like (spLike n)
  | 0 => (Fk.no T.f_law_like (fun _ _ _ _ _ _ us hl => match us, hl with | [_, _], _ => rfl) (fun vs H Q E ⟨x, y, d, _, _, _, h, _⟩ => absurd h (Nat.not_lt_zero _))).up (by omega)
  | n + 1 => by
      have GR := ok__law_like (P := P) (w := w) (base := base) T n
      have G_law_whole := ok__law_whole (P := P) (w := w) (base := base) T
      refine Fk.mk' (k := 1 + n) T.f_law_like sc_law_like (fun _ _ _ _ _ _ us hl => match us, hl with | [_, _], _ => rfl) (by
        intro vs H Q E h
        repeat (first | (obtain ⟨h1, _⟩ := h; subst h1; rfl) | (obtain ⟨_, h⟩ := h))) (fun cdv A outer s H vs Q E hr h => ?_)
      have hu := hu_of hr
      have hu64 := hr.units
      refine ⟨_, (pss_cons (ps_if (pt_cmpR op_isX (pv 1) pe_non (nomark _)) (pss_one (ps_ret (pe_cmpR op_isX (pv 0) pe_non (nomark _)))) pss_nil)
      (pss_cons (ps_if (pt_cmpR op_isX (pv 1) pe_bl (nomark _)) (pss_one (ps_ret (pe_cmpR op_isX (pv 0) pe_bl (nomark _)))) pss_nil)
      (pss_cons (ps_if (pt_cmpR op_isX (pv 1) pe_bl (nomark _)) (pss_one (ps_ret (pe_cmpR op_isX (pv 0) pe_bl (nomark _)))) pss_nil)
      (pss_cons (ps_if (pt_val (pe_callB call_isi (by rfl) T.uisinstance (by decide +kernel) (pa_cons (pv 1) (pa_cons (pe_bltn (v := .ty "int") (by rfl) T.uint (by decide +kernel) rfl) pa_nil)))) (pss_one (ps_ret (pe_and (q_call G_law_whole (hr.mono (by omega)) T.g_law_whole passX (pa_cons (pv 0) pa_nil)) (pe_one (pe_cmpR (op_eqU hu64) (pv 0) (pv 1) (nomark _)))))) pss_nil)
      (pss_cons (ps_if (pt_val (pe_callB call_isi (by rfl) T.uisinstance (by decide +kernel) (pa_cons (pv 1) (pa_cons (pe_bltn (v := .ty "str") (by rfl) T.ustr (by decide +kernel) rfl) pa_nil)))) (pss_one (ps_ret (pe_and (pe_callB call_isi (by rfl) T.uisinstance (by decide +kernel) (pa_cons (pv 0) (pa_cons (pe_bltn (v := .ty "str") (by rfl) T.ustr (by decide +kernel) rfl) pa_nil))) (pe_one (pe_cmpR (op_eqU hu64) (pv 0) (pv 1) (nomark _)))))) pss_nil)
      (pss_cons (ps_if (PW.pt (pw_and (pt_val (pe_callB call_isi (by rfl) T.uisinstance (by decide +kernel) (pa_cons (pv 1) (pa_cons (pe_bltn (v := .ty "tuple") (by rfl) T.utuple (by decide +kernel) rfl) pa_nil)))) (pw_and1 (pt_not (pt_val (pe_callB call_isi (by rfl) T.uisinstance (by decide +kernel) (pa_cons (pv 0) (pa_cons (pe_bltn (v := .ty "tuple") (by rfl) T.utuple (by decide +kernel) rfl) pa_nil)))))))) (pss_one (ps_ret pe_bl)) pss_nil)
      (pss_cons (ps_if (PW.pt (pw_and (pt_val (pe_callB call_isi (by rfl) T.uisinstance (by decide +kernel) (pa_cons (pv 1) (pa_cons (pe_bltn (v := .ty "list") (by rfl) T.ulist (by decide +kernel) rfl) pa_nil)))) (pw_and1 (pt_not (pt_val (pe_callB call_isi (by rfl) T.uisinstance (by decide +kernel) (pa_cons (pv 0) (pa_cons (pe_bltn (v := .ty "list") (by rfl) T.ulist (by decide +kernel) rfl) pa_nil)))))))) (pss_one (ps_ret pe_bl)) pss_nil)
      (pss_cons (ps_if (pt_cmpR (op_neU hu64) (pe_callB call_lenU (by rfl) T.ulen (by decide +kernel) (pa_cons (pv 0) pa_nil)) (pe_callB call_lenU (by rfl) T.ulen (by decide +kernel) (pa_cons (pv 1) pa_nil)) (nomark _)) (pss_one (ps_ret pe_bl)) pss_nil)
      (pss_cons (ps_for (passes_of rfl) rfl (RZ.pi_zipA (by rfl) T.uzip (pa_cons (pv 0) (pa_cons (pv 1) pa_nil))) (pg_tup rfl (pgs_cons (pg_name (i := 2) sc_law_like.nd rfl (Or.inl rfl)) (pgs_cons (pg_name (i := 3) sc_law_like.nd rfl (Or.inl rfl)) pgs_nil))) (pss_one (ps_if (pt_not (pt_val (q_call GR (hr.mono (by omega)) T.g_law_like passX (pa_cons (pv 2) (pa_cons (pv 3) pa_nil))))) (pss_one (ps_ret pe_bl)) pss_nil)))
      (pss_one (ps_ret pe_bl))))))))))), ?_⟩
      obtain ⟨x, y, d, rfl, hx, hy, hd, q⟩ := h
      walk_at "z"
      cases hx with
      | non =>
        cases hy
        refine z_yes rfl ?_
        walk_at "z"
        exact q H (Same.refl H)
      | bl b =>
        cases hy
        refine z_no (by intro z; cases z) ?_
        walk_at "z"
        cases b with
        | true =>
          refine z_yes rfl ?_
          walk_at "z"
          exact q H (Same.refl H)
        | false =>
          refine z_no (by intro z; cases z) ?_
          walk_at "z"
          refine z_yes rfl ?_
          walk_at "z"
          exact q H (Same.refl H)
      | int i =>
        cases hy
        refine z_no (by intro z; cases z) ?_
        walk_at "z"
        refine z_no (by intro z; cases z) ?_
        walk_at "z"
        refine z_no (by intro z; cases z) ?_
        walk_at "z"
        refine z_isI true (by decide +kernel) ?_
        walk_at "z"
        refine ⟨_, _, rfl, .int i, ?_⟩
        walk_at "z"
        refine iteT ?_
        walk_at "z"
        have e : decide (i = i) = true := decide_eq_true rfl
        rw [e]
        exact q H (Same.refl H)
      | str i =>
        cases hy
        refine z_no (by intro z; cases z) ?_
        walk_at "z"
        refine z_no (by intro z; cases z) ?_
        walk_at "z"
        refine z_no (by intro z; cases z) ?_
        walk_at "z"
        refine z_isS false (by decide +kernel) ?_
        walk_at "z"
        refine z_isS true (by decide +kernel) ?_
        walk_at "z"
        refine z_isS true (by decide +kernel) ?_
        walk_at "z"
        have e : decide (i = i) = true := decide_eq_true rfl
        rw [e]
        exact q H (Same.refl H)
      | @tup a xs ds ha hxs =>
        cases hy with
        | @tup b ys _ hb hys =>
        have hl : xs.length = ys.length := by rw [hxs.len, hys.len]
        refine z_no (by intro z; cases z) ?_
        walk_at "z"
        refine z_no (by intro z; cases z) ?_
        walk_at "z"
        refine z_no (by intro z; cases z) ?_
        walk_at "z"
        refine z_isT false hb (by decide +kernel) ?_
        walk_at "z"
        refine z_isT false hb (by decide +kernel) ?_
        walk_at "z"
        refine z_isT true hb (by decide +kernel) ?_
        walk_at "z"
        refine z_isT true ha (by decide +kernel) ?_
        walk_at "z"
        refine z_isT false hb (by decide +kernel) ?_
        walk_at "z"
        refine z_lenT (SqT.of ha) ?_
        walk_at "z"
        refine z_lenT (SqT.of hb) ?_
        walk_at "z"
        refine z_noN (by rw [hl]) ?_
        walk_at "z"
        refine ⟨_, _, _, _, rfl, .inr ⟨SqT.of ha, SqT.of hb, ?_⟩⟩
        refine RZ.for_zipT hl (fun i σ H' => ∃ u v, σ = [some (.ref a), some (.ref b), u, v] ∧ Same H H') ⟨_, _, rfl, Same.refl H⟩ (fun i σ H' ⟨_, _, _, s⟩ => ⟨s.tup (SqT.of ha), s.tup (SqT.of hb)⟩) ?_ ?_
        · rintro i x y T σ H' ex ey ⟨u, v, rfl, s1⟩ nT
          refine z_gTup (SqT.of upd_same) rfl ?_
          walk_at "z"
          obtain ⟨d, e1, e2⟩ := hxs.get ex
          obtain ⟨d', e1', e2'⟩ := hys.get ey
          cases e1.symm.trans e1'
          have s2 : Same H (upd H' T (.tup [x, y])) := s1.trans (Same.new nT)
          refine ⟨x, y, d, rfl, dv_same s2 e2, dv_same s2 e2', ?_, fun H2 s3 => ?_⟩
          · have := dpt_mem e1
            simp only [dpt] at hd
            omega
          · walk_at "z"
            exact ⟨_, _, rfl, s2.trans s3⟩
        · rintro σ H' ⟨u, v, rfl, s1⟩
          walk_at "z"
          exact q _ s1
      | @lst a xs ds ha hxs =>
        cases hy with
        | @lst b ys _ hb hys =>
        have hl : xs.length = ys.length := by rw [hxs.len, hys.len]
        refine z_no (by intro z; cases z) ?_
        walk_at "z"
        refine z_no (by intro z; cases z) ?_
        walk_at "z"
        refine z_no (by intro z; cases z) ?_
        walk_at "z"
        refine z_isL false hb (by decide +kernel) ?_
        walk_at "z"
        refine z_isL false hb (by decide +kernel) ?_
        walk_at "z"
        refine z_isL false hb (by decide +kernel) ?_
        walk_at "z"
        refine z_isL true hb (by decide +kernel) ?_
        walk_at "z"
        refine z_isL true ha (by decide +kernel) ?_
        walk_at "z"
        refine z_lenL (SqL.of ha) ?_
        walk_at "z"
        refine z_lenL (SqL.of hb) ?_
        walk_at "z"
        refine z_noN (by rw [hl]) ?_
        walk_at "z"
        refine ⟨_, _, _, _, rfl, .inl ⟨SqL.of ha, SqL.of hb, ?_⟩⟩
        refine RZ.for_zipL hl (fun i σ H' => ∃ u v, σ = [some (.ref a), some (.ref b), u, v] ∧ Same H H') ⟨_, _, rfl, Same.refl H⟩ (fun i σ H' ⟨_, _, _, s⟩ => ⟨s.seq (SqL.of ha), s.seq (SqL.of hb)⟩) ?_ ?_
        · rintro i x y T σ H' ex ey ⟨u, v, rfl, s1⟩ nT
          refine z_gTup (SqT.of upd_same) rfl ?_
          walk_at "z"
          obtain ⟨d, e1, e2⟩ := hxs.get ex
          obtain ⟨d', e1', e2'⟩ := hys.get ey
          cases e1.symm.trans e1'
          have s2 : Same H (upd H' T (.tup [x, y])) := s1.trans (Same.new nT)
          refine ⟨x, y, d, rfl, dv_same s2 e2, dv_same s2 e2', ?_, fun H2 s3 => ?_⟩
          · have := dpt_mem e1
            simp only [dpt] at hd
            omega
          · walk_at "z"
            exact ⟨_, _, rfl, s2.trans s3⟩
        · rintro σ H' ⟨u, v, rfl, s1⟩
          walk_at "z"
          exact q _ s1
theorem eight {t : Int} (h0 : 0 ≤ t) (h8 : t < 8) : t = 0 ∨ t = 1 ∨ t = 2 ∨ t = 3 ∨ t = 4 ∨ t = 5 ∨ t = 6 ∨ t = 7 := by omega
theorem after_back {t : Int} (h0 : 0 ≤ t) (h8 : t < 8) : afterI t (backOf t) = 0 ∧ afterI (backOf t) t = 0 := by
  rcases eight h0 h8 with rfl | rfl | rfl | rfl | rfl | rfl | rfl | rfl <;> decide
theorem after_goes {a b : Int} (h0 : 0 ≤ a) (h8 : a < 8) (g0 : 0 ≤ b) (g8 : b < 8) (n x y : Int) : 0 ≤ afterI a b ∧ afterI a b < 8 ∧ goesTo (afterI a b) n x y = goesTo b n (goesTo a n x y).1 (goesTo a n x y).2 := by
  rcases eight h0 h8 with rfl | rfl | rfl | rfl | rfl | rfl | rfl | rfl <;> rcases eight g0 g8 with rfl | rfl | rfl | rfl | rfl | rfl | rfl | rfl <;>
    refine ⟨by decide, by decide, ?_⟩ <;> simp [afterI, goesTo, rots, rot] <;> omega
abbrev nlaw : List Str := ["_law_script", "_law_size", "_law_x", "_law_y", "_law_one", "_law_other", "_law_both", "_law_u", "_law_v"]
abbrev plaw : List Str := ["_law_script"]
theorem sclaw : FnScope nlaw plaw (defScope slaw) := ⟨rfl, rfl, rfl, by decide +kernel, rfl, by decide +kernel, by decide +kernel⟩
theorem ok_law {P : Program} {w : World} {K : PySem.W.Frag} {mg : Str → Option Value} {base : Heap} (T : Tx K mg) {fd : FuncData} (F : FunD K "law" "law" (defArgs slaw) (defBody slaw) (defScope slaw) [] [] (He.ga K "law") fd) :
    FnOk P w K mg base (L2.CX P w) 10 (He.ga K "law") fd plaw (spLaw K) := by
  have G_law_cell := ok__law_cell (P := P) (w := w) (base := base) T
  have Gafter := ok_after (P := P) (w := w) (base := base) T
  have Ggoes_to := ok_goes_to (P := P) (w := w) (base := base) T
  have G_law_like := ok__law_like (P := P) (w := w) (base := base) T 8
  have G_law_whole := ok__law_whole (P := P) (w := w) (base := base) T
  have Gback_of := ok_back_of (P := P) (w := w) (base := base) T
  refine F.ok (CX := L2.CX P w) sclaw (by
    intro vs H Q E h
    repeat (first | (obtain ⟨h1, _⟩ := h; subst h1; rfl) | (obtain ⟨_, h⟩ := h))) (fun cdv A outer s H vs Q E hr h => ?_)
  have hu := hu_of hr
  have hu64 := hr.units
  refine ⟨_, (pss_cons (ps_set (i := 1) sclaw.nd rfl (Or.inl rfl) (pe_op op_addU pe_int (pe_op op_mod (q_call G_law_cell (hr.mono (by omega)) T.g_law_cell passX (pa_cons (pv 0) (pa_cons pe_int pa_nil))) pe_int)))
  (pss_cons (ps_set (i := 2) sclaw.nd rfl (Or.inl rfl) (pe_op op_mod (q_call G_law_cell (hr.mono (by omega)) T.g_law_cell passX (pa_cons (pv 0) (pa_cons pe_int pa_nil))) (pv 1)))
  (pss_cons (ps_set (i := 3) sclaw.nd rfl (Or.inl rfl) (pe_op op_mod (q_call G_law_cell (hr.mono (by omega)) T.g_law_cell passX (pa_cons (pv 0) (pa_cons pe_int pa_nil))) (pv 1)))
  (pss_cons (ps_for (passes_of rfl) rfl (pi_range1 (by rfl) T.urange (pa_cons pe_int pa_nil)) (pg_name (i := 4) sclaw.nd rfl (Or.inl rfl)) (pss_cons (ps_if (PW.pt (pw_or (pt_not (pt_val (q_call G_law_like (hr.mono (by omega)) T.g_law_like passX (pa_cons (q_call Gafter (hr.mono (by omega)) T.gafter passX (pa_cons (pv 4) (pa_cons (q_call Gback_of (hr.mono (by omega)) T.gback_of passX (pa_cons (pv 4) pa_nil)) pa_nil))) (pa_cons pe_int pa_nil))))) (pw_or1 (pt_not (pt_val (q_call G_law_like (hr.mono (by omega)) T.g_law_like passX (pa_cons (q_call Gafter (hr.mono (by omega)) T.gafter passX (pa_cons (q_call Gback_of (hr.mono (by omega)) T.gback_of passX (pa_cons (pv 4) pa_nil)) (pa_cons (pv 4) pa_nil))) (pa_cons pe_int pa_nil)))))))) (pss_one (ps_ret pe_bl)) pss_nil)
  (pss_one (ps_for (passes_of rfl) rfl (pi_range1 (by rfl) T.urange (pa_cons pe_int pa_nil)) (pg_name (i := 5) sclaw.nd rfl (Or.inl rfl)) (pss_cons (ps_set (i := 6) sclaw.nd rfl (Or.inl rfl) (q_call Gafter (hr.mono (by omega)) T.gafter passX (pa_cons (pv 4) (pa_cons (pv 5) pa_nil))))
  (pss_cons (ps_if (PW.pt (pw_or (pt_not (pt_val (q_call G_law_whole (hr.mono (by omega)) T.g_law_whole passX (pa_cons (pv 6) pa_nil)))) (pw_or1 (pt_not (pt_chain op_le op_lt pe_int (pv 6) pe_int))))) (pss_one (ps_ret pe_bl)) pss_nil)
  (pss_cons (ps_asg (q_call Ggoes_to (hr.mono (by omega)) T.ggoes_to passX (pa_cons (pv 4) (pa_cons (pv 1) (pa_cons (pv 2) (pa_cons (pv 3) pa_nil))))) (pg_tup rfl (pgs_cons (pg_name (i := 7) sclaw.nd rfl (Or.inl rfl)) (pgs_cons (pg_name (i := 8) sclaw.nd rfl (Or.inl rfl)) pgs_nil))))
  (pss_one (ps_if (pt_cmpR (op_neU hu64) (q_call Ggoes_to (hr.mono (by omega)) T.ggoes_to passX (pa_cons (pv 6) (pa_cons (pv 1) (pa_cons (pv 2) (pa_cons (pv 3) pa_nil))))) (q_call Ggoes_to (hr.mono (by omega)) T.ggoes_to passX (pa_cons (pv 5) (pa_cons (pv 1) (pa_cons (pv 7) (pa_cons (pv 8) pa_nil))))) (nomark _)) (pss_one (ps_ret pe_bl)) pss_nil)))))))))
  (pss_one (ps_ret pe_bl)))))), ?_⟩
  obtain ⟨a, ns, rfl, hs, hlen, hbits, q⟩ := h
  walk_at "z"
  refine ⟨a, ns, 0, rfl, hs, ?_⟩
  walk_at "z"
  refine z_I (by decide) ?_
  walk_at "z"
  have hn : 0 < 2 + cell ns 0 % 59 := by
    have := Int.emod_nonneg (cell ns 0) (show (59 : Int) ≠ 0 by decide)
    omega
  generalize 2 + cell ns 0 % 59 = n at hn ⊢
  refine ⟨a, ns, 1, rfl, hs, ?_⟩
  walk_at "z"
  refine z_I hn ?_
  walk_at "z"
  refine ⟨a, ns, 2, rfl, hs, ?_⟩
  walk_at "z"
  refine z_I hn ?_
  walk_at "z"
  generalize cell ns 1 % n = x
  generalize cell ns 2 % n = y
  refine ⟨_, rfl, by decide, by decide, ?_⟩
  refine for_range (fun i σ H' => ∃ u1 u2 u3 u4 u5, σ = [some (.ref a), some (.int n), some (.int x), some (.int y), u1, u2, u3, u4, u5]) ⟨_, _, _, _, _, rfl⟩ ?_ ?_
  · rintro i σ H' hi ⟨u1, u2, u3, u4, u5, rfl⟩
    have hi8 : (0 : Int) + (i : Nat) < 8 := by omega
    have hi0 : (0 : Int) ≤ 0 + (i : Nat) := by omega
    generalize (0 : Int) + (i : Nat) = t at hi8 hi0 ⊢
    obtain ⟨b1, b2⟩ := after_back hi0 hi8
    walk_at "z"
    refine ⟨t, rfl, ?_⟩
    walk_at "z"
    refine ⟨t, _, rfl, ?_⟩
    walk_at "z"
    rw [b1]
    refine ⟨_, _, .int 0, rfl, .int 0, .int 0, by simp [dpt], fun H2 s2 => ?_⟩
    walk_at "z"
    refine ⟨t, rfl, ?_⟩
    walk_at "z"
    refine ⟨_, t, rfl, ?_⟩
    walk_at "z"
    rw [b2]
    refine ⟨_, _, .int 0, rfl, .int 0, .int 0, by simp [dpt], fun H3 s3 => ?_⟩
    walk_at "z"
    refine ⟨_, rfl, by decide, by decide, ?_⟩
    refine for_range (fun i σ H' => ∃ u2 u3 u4 u5, σ = [some (.ref a), some (.int n), some (.int x), some (.int y), some (.int t), u2, u3, u4, u5]) ⟨_, _, _, _, rfl⟩ ?_ ?_
    · rintro j σ H' hj ⟨u2, u3, u4, u5, rfl⟩
      have hj8 : (0 : Int) + (j : Nat) < 8 := by omega
      have hj0 : (0 : Int) ≤ 0 + (j : Nat) := by omega
      generalize (0 : Int) + (j : Nat) = b at hj8 hj0 ⊢
      obtain ⟨c1, c2, c3⟩ := after_goes hi0 hi8 hj0 hj8 n x y
      walk_at "z"
      refine ⟨t, b, rfl, ?_⟩
      walk_at "z"
      refine ⟨_, _, rfl, .int _, ?_⟩
      walk_at "z"
      refine iteF ?_
      walk_at "z"
      refine z_yes c1 ?_
      walk_at "z"
      refine z_noN c2 ?_
      walk_at "z"
      refine ⟨t, n, x, y, rfl, ?_⟩
      intro p hp
      generalize hH : upd _ p _ = H4
      have f1 := new_at hH
      clear hH
      walk_at "z"
      refine z_gTup (SqT.of f1) rfl ?_
      walk_at "z"
      refine ⟨_, n, x, y, rfl, ?_⟩
      rw [c3]
      intro p hp
      generalize hH : upd _ p _ = H5
      have f2 := new_at hH
      clear hH
      walk_at "z"
      refine ⟨b, n, _, _, rfl, ?_⟩
      walk_at "zn"
      walk_at "z"
      refine z_neSame (d := .tuple [.int _, .int _]) (.tup (by walk_at "hs") (.cons (.int _) (.cons (.int _) .nil))) (.tup (by assumption) (.cons (.int _) (.cons (.int _) .nil))) (by rfl) (by simp [PyData.eqv, PyData.eqvAll]) ?_
      walk_at "z"
      exact ⟨_, _, _, _, rfl⟩
    · rintro σ H' ⟨u2, u3, u4, u5, rfl⟩
      walk_at "z"
      exact ⟨_, _, _, _, _, rfl⟩
  · rintro σ H' ⟨u1, u2, u3, u4, u5, rfl⟩
    walk_at "z"
    exact q _
theorem law_walk : PySem.W.WalkO (PySem.W.view hR.prog [8]) hloose (PySem.W.XL (PySem.W.view hR.prog [8]) []) hk.says PySem.Challenge.rw_murrine_k02_turnings_make_a_group.row.toRowW (HandSHeadRun.topDef hR.prog 8) [] (fun f vs => PySem.call f vs) := by
  refine Att.attach_callB (l := PySem.Challenge.rw_murrine_k02_turnings_make_a_group) (n := 63) rfl (by kernel_rfl) fun w s₀ s₁ mg mb fa o pm cd doc a vs ns G Y ho hd hcd hmg0 hobj hints hlen hbits hg => ?_
  obtain ⟨K, KX, c⟩ := Y
  have T := tx_of KX G.T.g c
  have hmg : mg ("law" : Str) = some (.ref fa) := by
    have e : (HandSHeadRun.topDef hR.prog 8).name = ("law" : Str) := by kernel_rfl
    rw [← e]
    exact hmg0
  have ef : fa = He.ga K "law" := Value.ref.inj (Option.some.inj (hmg.symm.trans T.glaw))
  subst ef
  obtain ⟨fd, F⟩ := T.flaw
  have hb : ∀ (s : Shared) (v : Value), BindsTo s fd ⟨[v], []⟩ [("_law_script", v)] := fun s v => FunD.bindsA (ps := ["_law_script"]) F (fun _ _ _ _ _ _ us hl => match us, hl with | [_], _ => rfl) s [v] rfl
  refine law_call KX G.T.g G.T.b G.T.builtins G.T.nolimit hg hobj hints (Nat.le_trans hlen (by decide)) (k := 10) (CX := L2.CX PySem.Challenge.rw_murrine_k02_turnings_make_a_group.prog w) (sp := spLaw K) ⟨rfl, by decide, by decide⟩ (fun base b1 b2 => ok_law T F) hb (fun H hO hS => ⟨a, ns, rfl, hS, hlen, hbits, fun _ => rfl⟩) (fun H e s' h => ?_)
  obtain ⟨_, _, _, _, _, _, _, _, _, _, _, _, z⟩ := h
  exact z
end Mur
open PySem PySem.W PySem.Calls PyProof.Rows
theorem PySem.Challenge.cw_murrine_k02_turnings_make_a_group_holds : PySem.Challenge.rw_murrine_k02_turnings_make_a_group.Holds := by
  w_on; o_law
  refine HandSHeadRun.head_any (r := OpenLaw.row PySem.Challenge.rw_murrine_k02_turnings_make_a_group) (q := view (OpenLaw.row PySem.Challenge.rw_murrine_k02_turnings_make_a_group).prog [8]) (H := Mur.hk) (ob := Mur.hob) (M := 3000) (loose := Mur.hloose) (d := HandSHeadRun.topDef (OpenLaw.row PySem.Challenge.rw_murrine_k02_turnings_make_a_group).prog 8) (kwd := []) Mur.hob_eq
    (by kernel_rfl) (fun s => by kernel_rfl) Mur.hrun (by kernel_rfl) (by kernel_rfl) (by kernel_rfl) (by rfl) (by first | assumption | decide +kernel) (by decide +kernel) ⟨rfl, rfl, rfl, rfl, rfl, by decide +kernel⟩ ?hw ?hc
  case hw => w_witness2
  case hc => exact Mur.law_walk
#print axioms PySem.Challenge.cw_murrine_k02_turnings_make_a_group_holds
