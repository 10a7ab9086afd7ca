import PyProof.Rows.All
import Wide.All
import OpenK.AllK
import Wide.FinOn
import KE.KStateDown
import Lean
import HandS.ForMost
import HandS.ForExc
import HandS.TryMany
import HandS.Defaults
import HandS.EndBits
import HandS.IsInst
import HandS.Style
import HandS.Zip
import HandS.Walk
import HandS.TupAny
import HandS.WideBits
import HandS.Wide
import HandS.Head0
import HandS.Head1
import HandS.Head2
import HandS.HeadEnd
import HandS.HeadHook1
import HandS.HeadHook2
import KE.GoesRaise
import HandS.More
import PyProof.MeetsDict
import OpenK.KTop
import HandS.RaiseMore
import PySem.Challenge.RW_murrine_k17_lines_read
set_option Elab.async false
set_option linter.all false
set_option maxRecDepth 100000
set_option maxHeartbeats 4000000
/-! Own words over the hand layer: a def with its promise (Fk), its calls; readings step by step (z_*). -/
namespace Mur
open PySem hiding start
open PySem.Spec L2
open PyProof.Rows hiding St

/-! ### a def of the text that keeps its promise -/
structure Fk (P : Program) (w : World) (K : PySem.W.Frag) (mg : Str → Option Value) (base : Heap) (k : Nat) (f : Addr) (ps : List Str) (sp : Sp) : Prop where
  ex : ∃ fd, FnOk P w K mg base (L2.CX P w) k f fd ps sp ∧ Binds K fd ps []
  kp : PySem.W.keepIn K (.ref f) = true
section
variable {P : Program} {w : World} {K : PySem.W.Frag} {mg : Str → Option Value} {base : Heap} {k : Nat} {f : Addr} {ps : List Str} {sp : Sp}
theorem Fk.up {j : Nat} (G : Fk P w K mg base k f ps sp) (h : k ≤ j) : Fk P w K mg base j f ps sp :=
  let ⟨fd, a, b⟩ := G.ex; ⟨⟨fd, a.mono h, b⟩, G.kp⟩
theorem Fk.mk' {x qual : Str} {params : Arguments} {body : List Stmt} {scope : Scope} {N : List Str} (F : ∃ fd, FunD K x qual params body scope [] [] f fd) (S : FnScope N ps scope)
    (hb : ∀ (kV doc pm : Value) (an : Option Addr) (cdv ct : Value) (us : List Value), us.length = ps.length → bindArgs (PySem.W.fnOf x qual params body scope .none kV doc pm an cdv ct) ⟨us, []⟩ = pure (ps.zip us))
    (len : ∀ vs H Q E, sp vs H Q E → vs.length = ps.length)
    (hbody : ∀ (cdv : Value) (A : Around) (outer : List Env) (s : Shared) (H : Hp) (vs : List V) (Q : VK) (E : XK), Room k (A.deeper (envOfC qual scope s.heap.objs.size f cdv)) → sp vs H Q E →
      ∃ t, PSs (cxOf (L2.CX P w) P w K mg base N qual scope f cdv A outer s H E) body t ∧ t { nx := fun _ H' => Q .non H', rt := Q } (start N vs) H) : Fk P w K mg base (k + 1) f ps sp := by
  obtain ⟨fd, F⟩ := F
  exact ⟨⟨fd, F.ok (CX := L2.CX P w) S len hbody, F.bindsN hb⟩, F.kp⟩
end
section
variable {X : Cx} {k : Nat} {f C : Addr} {ps : List Str} {sp : Sp} {E : XK} {x m : Str} {p pos apos : Pos} {e o : Expr} {es : List Expr} {ta : TE} {t : TA}
theorem q_call (G : Fk X.prog X.w X.K X.mg X.base k f ps sp) (hr : Room k X.A) (hm : X.mg x = some (.ref f)) (hx : Passes (L2.CX X.prog X.w) X E) (ha : PA X (e :: es) t) (hg : Gl X x := by rfl)
    (hdb : (x == ("__debug__" : Str)) = false := by decide) (he : starEach (e :: es) X.env = (false, eval e X.env) :: starEach es X.env := by rfl) (hpl : (backTo pos (starEach es X.env)).any (·.1) = false := by rfl) :
    PE X (.Call (.Name x p) (e :: es) [] pos) (tCall sp [] E t) := by
  obtain ⟨fd, F, B⟩ := G.ex
  exact pe_call F hr hg hm G.kp B .nil hx ha hdb he hpl
theorem q_call0 (G : Fk X.prog X.w X.K X.mg X.base k f ps sp) (hr : Room k X.A) (hm : X.mg x = some (.ref f)) (hx : Passes (L2.CX X.prog X.w) X E) (hg : Gl X x := by rfl)
    (hdb : (x == ("__debug__" : Str)) = false := by decide) : PE X (.Call (.Name x p) [] [] pos) (tCall sp [] E tNil) := by
  obtain ⟨fd, F, B⟩ := G.ex
  exact pe_call0 F hr hg hm G.kp B .nil hx hdb
theorem q_callS {E : St → XK} (G : Fk X.prog X.w X.K X.mg X.base k f ps sp) (hr : Room k X.A) (hm : X.mg x = some (.ref f)) (hx : ∀ σ, PassesAt (L2.CX X.prog X.w) X σ (E σ)) (ha : PA X (e :: es) t) (hg : Gl X x := by rfl)
    (hdb : (x == ("__debug__" : Str)) = false := by decide) (he : starEach (e :: es) X.env = (false, eval e X.env) :: starEach es X.env := by rfl) (hpl : (backTo pos (starEach es X.env)).any (·.1) = false := by rfl) :
    PE X (.Call (.Name x p) (e :: es) [] pos) (tCallS sp E t) := by
  obtain ⟨fd, F, B⟩ := G.ex
  exact pe_callS F hr hg hm G.kp B hx ha hdb he hpl
end
section
variable {X : Cx} {k : Nat} {f C : Addr} {ps : List Str} {sp : Sp} {E : XK} {x m : Str} {p pos apos : Pos} {e o : Expr} {es : List Expr} {ta : TE} {t : TA}
theorem q_meth {pl : Sem Bool} (he : PE X o ta) (c : Cls X.K C) (hm : Meth X.K C m f) (G : Fk X.prog X.w X.K X.mg X.base k f ps sp) (hr : Room k X.A) (hx : Passes (L2.CX X.prog X.w) X E) (ha : PA X (e :: es) t)
    (hst : starEach (e :: es) X.env = (false, eval e X.env) :: starEach es X.env := by rfl) (hpl : (backTo pos (starEach es X.env)).any (·.1) = false := by rfl)
    (ht : eval (.Call (.Attribute o m apos) (e :: es) [] pos) X.env = (do
      let ov ← eval o X.env
      standAt apos.atName
      let (f, first) ← holding [ov] (getMethod ov m pl)
      callWith pos f first (backTo pos (starEach (e :: es) X.env)) (backToKw pos (keywordEach [] X.env))) := by rfl) :
    PE X (.Call (.Attribute o m apos) (e :: es) [] pos) (tMeth C m sp [] E ta t) := by
  obtain ⟨fd, F, B⟩ := G.ex
  exact pe_meth he c hm F hr B .nil hx ha hst hpl ht
theorem q_meth0 {pl : Sem Bool} (he : PE X o ta) (c : Cls X.K C) (hm : Meth X.K C m f) (G : Fk X.prog X.w X.K X.mg X.base k f ps sp) (hr : Room k X.A) (hx : Passes (L2.CX X.prog X.w) X E)
    (ht : eval (.Call (.Attribute o m apos) [] [] pos) X.env = (do
      let ov ← eval o X.env
      standAt apos.atName
      let (f, first) ← holding [ov] (getMethod ov m pl)
      callWith pos f first (backTo pos (starEach [] X.env)) (backToKw pos (keywordEach [] X.env))) := by rfl) :
    PE X (.Call (.Attribute o m apos) [] [] pos) (tMeth C m sp [] E ta tNil) := by
  obtain ⟨fd, F, B⟩ := G.ex
  exact pe_meth0 he c hm F hr B .nil hx ht
/-- within a try: what is raised is wished for at the slots -/
def tMethSl (C : Addr) (m : Str) (sp : Sp) (E : L2.St → XK) (ta : TE) (t : TA) : TE := fun σ H Q => ta σ H fun x H1 => ∃ a dx fs, x = .ref a ∧ H1 a = some (.ins C dx fs) ∧ fs.lookup m = none ∧
  t σ H1 fun vs H2 => sp (x :: vs) H2 Q (E σ)
theorem q_methS {E : L2.St → XK} {pl : Sem Bool} (he : PE X o ta) (c : Cls X.K C) (hm : Meth X.K C m f) (G : Fk X.prog X.w X.K X.mg X.base k f ps sp) (hr : Room k X.A) (hx : ∀ σ, PassesAt (L2.CX X.prog X.w) X σ (E σ)) (ha : PA X (e :: es) t)
    (hst : starEach (e :: es) X.env = (false, eval e X.env) :: starEach es X.env := by rfl) (hpl : (backTo pos (starEach es X.env)).any (·.1) = false := by rfl)
    (ht : eval (.Call (.Attribute o m apos) (e :: es) [] pos) X.env = (do
      let ov ← eval o X.env
      standAt apos.atName
      let (f, first) ← holding [ov] (getMethod ov m pl)
      callWith pos f first (backTo pos (starEach (e :: es) X.env)) (backToKw pos (keywordEach [] X.env))) := by rfl) :
    PE X (.Call (.Attribute o m apos) (e :: es) [] pos) (tMethSl C m sp E ta t) := by
  obtain ⟨fd, F, B⟩ := G.ex
  refine ⟨fun pins s σ H Q I h => ?_⟩
  refine PySem.W.methodCall_KW (pl := pl) (thn (he.run pins s σ H _ I h) fun u s1 ⟨x, H1, I1, rx, a, dx, fs, ex, ea, l, q⟩ => ?_) ht
  subst ex
  obtain rfl : u = Value.ref a := rx
  refine getmeth_ok I1 ea c hm l ?_
  exact PySem.W.callWith_K (first := [.ref a]) (h₀ := X.base) I.ok.mod.kin hm.kp (thn (ha.run pos pins s1 σ H1 _ I1 q) fun us s2 ⟨vs, H2, I2, r, q2⟩ => ⟨I2.kIn, run_fnS (us := .ref a :: us) (vs := .ref a :: vs) F hr B (hx σ) I2 (.cons rfl r) q2⟩) hst hpl
theorem q_meth0S {E : L2.St → XK} {pl : Sem Bool} (he : PE X o ta) (c : Cls X.K C) (hm : Meth X.K C m f) (G : Fk X.prog X.w X.K X.mg X.base k f ps sp) (hr : Room k X.A) (hx : ∀ σ, PassesAt (L2.CX X.prog X.w) X σ (E σ))
    (ht : eval (.Call (.Attribute o m apos) [] [] pos) X.env = (do
      let ov ← eval o X.env
      standAt apos.atName
      let (f, first) ← holding [ov] (getMethod ov m pl)
      callWith pos f first (backTo pos (starEach [] X.env)) (backToKw pos (keywordEach [] X.env))) := by rfl) :
    PE X (.Call (.Attribute o m apos) [] [] pos) (tMethSl C m sp E ta tNil) := by
  obtain ⟨fd, F, B⟩ := G.ex
  refine ⟨fun pins s σ H Q I h => ?_⟩
  refine PySem.W.methodCall_KW (pl := pl) (thn (he.run pins s σ H _ I h) fun u s1 ⟨x, H1, I1, rx, a, dx, fs, ex, ea, l, q⟩ => ?_) ht
  subst ex
  obtain rfl : u = Value.ref a := rx
  refine getmeth_ok I1 ea c hm l ?_
  exact PySem.W.callWith_K0 (first := [.ref a]) I1.kIn hm.kp (run_fnS (us := [.ref a]) (vs := [.ref a]) F hr B (hx σ) I1 (.cons rfl .nil) q)
theorem q_make (M : Mk X.K C f) (G : Fk X.prog X.w X.K X.mg X.base k f ps sp) (hr : Room (k + 1) X.A) (hm : X.mg x = some (.ref C)) (hx : Passes (L2.CX X.prog X.w) X E) (ha : PA X (e :: es) t) (hg : Gl X x := by rfl)
    (hdb : (x == ("__debug__" : Str)) = false := by decide) (he : starEach (e :: es) X.env = (false, eval e X.env) :: starEach es X.env := by rfl) (hpl : (backTo pos (starEach es X.env)).any (·.1) = false := by rfl) :
    PE X (.Call (.Name x p) (e :: es) [] pos) (tMake C sp [] E t) := by
  obtain ⟨fd, F, B⟩ := G.ex
  exact pe_make M F hr hg hm B .nil hx ha hdb he hpl
theorem q_make0 (M : Mk X.K C f) (G : Fk X.prog X.w X.K X.mg X.base k f ps sp) (hr : Room (k + 1) X.A) (hm : X.mg x = some (.ref C)) (hx : Passes (L2.CX X.prog X.w) X E) (hg : Gl X x := by rfl)
    (hdb : (x == ("__debug__" : Str)) = false := by decide) : PE X (.Call (.Name x p) [] [] pos) (tMake C sp [] E tNil) := by
  obtain ⟨fd, F, B⟩ := G.ex
  exact pe_make0 M F hr hg hm B .nil hx hdb
end
/-- what a callee raises leaves the def's own body -/
theorem passX {P : Program} {w : World} {K : PySem.W.Frag} {mg : Str → Option Value} {base : Heap} {N : List Str} {qual : Str} {scope : Scope} {f : Addr} {cd : Value} {A : Around} {outer : List Env} {s : Shared} {H : Hp} {E : XK} :
    Passes (L2.CX P w) (cxOf (L2.CX P w) P w K mg base N qual scope f cd A outer s H E) E := passes_call (takes_of rfl rfl rfl rfl) fun _ _ _ _ h => h
theorem takesX {P : Program} {w : World} {K : PySem.W.Frag} {mg : Str → Option Value} {base : Heap} {N : List Str} {qual : Str} {scope : Scope} {f : Addr} {cd : Value} {A : Around} {outer : List Env} {s : Shared} {H : Hp} {E : XK} :
    Takes (cxOf (L2.CX P w) P w K mg base N qual scope f cd A outer s H E) (fun cls d _ H => E cls d H) := takes_of rfl rfl rfl rfl
/-- a global int -/
theorem q_int {X : Cx} {x : Str} {i : Int} {pos : Pos} (hm : ∃ t, X.mg x = some (.int i t)) (hg : Gl X x := by rfl) (hd : (x == ("__debug__" : Str)) = false := by decide) : PE X (.Name x pos) (tC (.int i)) := by
  obtain ⟨t, e⟩ := hm
  exact pe_glob hg e ⟨_, rfl⟩ hd
theorem q_txt {X : Cx} {x z : Str} {pos : Pos} (hm : ∃ t, X.mg x = some (.str z t)) (hg : Gl X x := by rfl) (hd : (x == ("__debug__" : Str)) = false := by decide) : PE X (.Name x pos) (tC (.str z)) := by
  obtain ⟨t, e⟩ := hm
  exact pe_glob hg e ⟨_, rfl⟩ hd

/-! ### operators of several kinds -/
def rIsX : R2 := fun x y H Q => (y = .non ∨ ∃ b, y = .bl b) ∧ Q (.bl (decide (x = y))) H
def rNotX : R2 := fun x y H Q => (y = .non ∨ ∃ b, y = .bl b) ∧ Q (.bl (!decide (x = y))) H
theorem op_isX {X : Cx} : OpR X (compareOp .Is) rIsX := by
  intro pins s σ H x y v u Q I rx ry h
  obtain ⟨rfl | ⟨b, rfl⟩, q⟩ := h
  · exact op_isN pins s σ H x .non v u Q I rx ry ⟨rfl, q⟩
  · cases x with
    | bl a =>
      refine op_isBl pins s σ H (.bl a) (.bl b) v u Q I rx ry ⟨a, b, rfl, rfl, ?_⟩
      have e : decide (V.bl a = V.bl b) = decide (a = b) := by by_cases h : a = b <;> simp [h]
      rw [e] at q
      exact q
    | non => cases (show u = Value.bool b from ry); cases (show v = Value.none from rx); exact wpAny_pure (fin_bl I q rfl)
    | ref a => cases (show u = Value.bool b from ry); cases (show v = Value.ref a from rx); exact wpAny_pure (fin_bl I q rfl)
    | ty n => cases (show u = Value.bool b from ry); cases (show v = Value.type n from rx); exact wpAny_pure (fin_bl I q rfl)
    | int i => cases (show u = Value.bool b from ry); obtain ⟨t, rfl⟩ := rx; exact wpAny_pure (fin_bl I q rfl)
    | str i => cases (show u = Value.bool b from ry); obtain ⟨t, rfl⟩ := rx; exact wpAny_pure (fin_bl I q rfl)
    | byt i => cases (show u = Value.bool b from ry); obtain ⟨t, rfl⟩ := rx; exact wpAny_pure (fin_bl I q rfl)
    | flt i => cases (show u = Value.bool b from ry); obtain ⟨t, rfl⟩ := rx; exact wpAny_pure (fin_bl I q rfl)
/-- +: ints, texts, lists, tuples -/
def rAddU (K : PySem.W.Frag) : R2 := fun x y H Q => rI0 (fun i j => .int (i + j)) x y H Q ∨ (∃ i j, x = .str i ∧ y = .str j ∧ i.length + j.length ≤ sizeLine ∧ Q (.str (i ++ j)) H) ∨ rCat x y H Q ∨ rCatA K x y H Q
theorem op_addU {X : Cx} : OpR X (binaryOp .Add) (rAddU X.K) := op_add.or (op_add_str.or (op_cat.or op_catA))
/-- *: ints of any size that matters, a list times an int -/
def rMulU : R2 := fun x y H Q => rI CMulX (fun i j => .int (i * j)) x y H Q ∨ rRep x y H Q
theorem op_mulU {X : Cx} : OpR X (binaryOp .Mult) rMulU := op_mulX.or op_rep
abbrev rSubI : R2 := rI0 fun i j => .int (i - j)
abbrev rDivI : R2 := rI CDivW fun i j => .int (i / j)
abbrev rModI : R2 := rI (fun _ j => 0 < j) fun i j => .int (i % j)
abbrev rShlI : R2 := rI CPow fun i j => .int (i * 2 ^ j.toNat)
abbrev rPowI : R2 := rI CPow fun i j => .int (i ^ j.toNat)
/-- ==: scalars, or data at any depth -/
def rEqU (K : PySem.W.Frag) : R2 := fun x y H Q => rEq x y H Q ∨ rEqD K x y H Q
def rNeU (K : PySem.W.Frag) : R2 := fun x y H Q => rNe x y H Q ∨ rNeD K x y H Q
theorem op_eqU {X : Cx} (hu : X.A.units + 64 < cLine) : OpR X (compareOp .Eq) (rEqU X.K) := op_eq.or (op_eqD hu)
theorem op_neU {X : Cx} (hu : X.A.units + 64 < cLine) : OpR X (compareOp .NotEq) (rNeU X.K) := op_ne.or (op_neD hu)

/-! ### slots -/
inductive StartAt : List Str → List V → St → Prop where
  | val {x : Str} {N : List Str} {v : V} {vs : List V} {σ : St} : StartAt N vs σ → StartAt (x :: N) (v :: vs) (some v :: σ)
  | non {x : Str} {N : List Str} {σ : St} : StartAt N [] σ → StartAt (x :: N) [] (none :: σ)
  | nil : StartAt [] [] []
theorem StartAt.eq : ∀ {N : List Str} {vs : List V} {σ : St}, StartAt N vs σ → start N vs = σ
  | _, _, _, .val h => by
    have e := h.eq
    unfold start at e ⊢
    simp only [List.map_cons, List.length_cons, List.cons_append, Nat.add_sub_add_right, e]
  | _, _, _, .non h => by
    have e := h.eq
    unfold start at e ⊢
    simp only [List.map_nil, List.length_cons, List.length_nil, Nat.sub_zero, List.nil_append, List.replicate_succ] at e ⊢
    rw [e]
  | _, _, _, .nil => rfl
theorem z_start {N : List Str} {vs : List V} {σ : St} {t : TS} {D : Ends} {H : Hp} (e : StartAt N vs σ) (k : t D σ H) : t D (start N vs) H := by rw [e.eq]; exact k
inductive SetAt : St → Nat → Option V → St → Prop where
  | zero {a v : Option V} {l : St} : SetAt (a :: l) 0 v (v :: l)
  | succ {a v : Option V} {l l' : St} {n : Nat} : SetAt l n v l' → SetAt (a :: l) (n + 1) v (a :: l')
theorem SetAt.eq : ∀ {l l' : St} {n : Nat} {v : Option V}, SetAt l n v l' → l.set n v = l'
  | _, _, _, _, .zero => rfl
  | _, _, _, _, .succ h => by rw [List.set_cons_succ, h.eq]
section
variable {K : PySem.W.Frag} {σ σ' : St} {H : Hp} {Q : VK} {ta tb tc te : TE} {v x y : V} {D : Ends} {ts tu : TS} {TQ : Bool → Hp → Prop} {tt tt2 : TT} {GQ : St → Hp → Prop}
/-! ### statements -/
theorem z_seq (h : ts { D with nx := tu D } σ H) : tSeq ts tu D σ H := h
theorem z_next (h : D.nx σ H) : tNext D σ H := h
theorem z_drop (h : te σ H fun _ H1 => D.nx σ H1) : tDrop te D σ H := h
theorem z_ret (h : te σ H D.rt) : tRet te D σ H := h
theorem z_retN (h : D.rt .non H) : tRetN D σ H := h
theorem z_asg {g : TG} (h : te σ H fun x H1 => g x σ H1 D.nx) : tAsg te g D σ H := h
theorem z_name {i : Nat} (e : SetAt σ i (some v) σ') (k : GQ σ' H) : gName i v σ H GQ := by
  show GQ (σ.set i (some v)) H
  rw [e.eq]; exact k
theorem z_if (h : tt σ H fun b H1 => if b = true then ts D σ H1 else tu D σ H1) : tIfS tt ts tu D σ H := h
theorem z_par {i j : Nat} {t : TA} (h : t σ H fun vs H1 => ∃ v w, vs = [v, w] ∧ D.nx ((σ.set i (some v)).set j (some w)) H1) : tPar i j t D σ H := h
theorem z_par2 {i j : Nat} {v w : V} {σ1 σ2 : St} (e1 : SetAt σ i (some v) σ1) (e2 : SetAt σ1 j (some w) σ2) (k : D.nx σ2 H) : ∃ v' w', [v, w] = [v', w'] ∧ D.nx ((σ.set i (some v')).set j (some w')) H :=
  ⟨v, w, rfl, by rw [e1.eq, e2.eq]; exact k⟩
/-! ### tests -/
theorem z_tTest (h : te σ H fun x H' => ∃ k, x = .bl k ∧ TQ k H') : tTest te σ H TQ := h
theorem z_tB (h : te σ H fun x H' => ∃ k, x = .bl k ∧ TQ k H') : tB te σ H TQ := h
theorem z_bl {b : Bool} (h : TQ b H) : ∃ k, V.bl b = .bl k ∧ TQ k H := ⟨b, rfl, h⟩
theorem z_and (h : tt σ H fun c H1 => if c = true then tt2 σ H1 TQ else TQ false H1) : tAnd tt tt2 σ H TQ := h
theorem z_or (h : tt σ H fun c H1 => if c = true then TQ true H1 else tt2 σ H1 TQ) : tOr tt tt2 σ H TQ := h
theorem z_not (h : tt σ H fun c H1 => TQ (!c) H1) : tNot tt σ H TQ := h
theorem z_ite {c A B : Prop} [Decidable c] (h1 : c → A) (h2 : ¬ c → B) : if decide c = true then A else B := by
  by_cases h : c
  · rw [if_pos (decide_eq_true h)]; exact h1 h
  · rw [if_neg (by rw [decide_eq_false h]; exact Bool.false_ne_true)]; exact h2 h
theorem z_iteN {c A B : Prop} [Decidable c] (h1 : ¬ c → A) (h2 : c → B) : if (!decide c) = true then A else B := by
  by_cases h : c
  · rw [decide_eq_true h]; exact iteF (h2 h)
  · rw [decide_eq_false h]; exact iteT (h1 h)
theorem z_yes {c A B : Prop} [Decidable c] (hc : c) (h : A) : if decide c = true then A else B := by rw [if_pos (decide_eq_true hc)]; exact h
theorem z_no {c A B : Prop} [Decidable c] (hc : ¬ c) (h : B) : if decide c = true then A else B := by rw [decide_eq_false hc]; exact iteF h
theorem z_yesN {c A B : Prop} [Decidable c] (hc : ¬ c) (h : A) : if (!decide c) = true then A else B := by rw [decide_eq_false hc]; exact iteT h
theorem z_noN {c A B : Prop} [Decidable c] (hc : c) (h : B) : if (!decide c) = true then A else B := by rw [decide_eq_true hc]; exact iteF h
theorem z_nnot {b : Bool} {A B : Prop} (h : if b = true then B else A) : if (!b) = true then A else B := by
  cases b
  · exact iteT (by simpa using h)
  · exact iteF (by simpa using h)
/-! ### expressions -/
theorem z_var {i : Nat} (e : σ[i]? = some (some v)) (k : Q v H) : tVar i σ H Q := ⟨v, e, k⟩
theorem z_c (k : Q v H) : tC v σ H Q := k
theorem z_op {r : R2} (h : ta σ H fun x H1 => tb σ H1 fun y H2 => r x y H2 Q) : tOp r ta tb σ H Q := h
theorem z_un {r : V → Hp → VK → Prop} (h : ta σ H fun x H1 => r x H1 Q) : tUn r ta σ H Q := h
theorem z_andV (h : ta σ H fun x H1 => ∃ c, x = .bl c ∧ if c = true then tb σ H1 Q else Q (.bl false) H1) : tAndV ta tb σ H Q := h
theorem z_orV (h : ta σ H fun x H1 => ∃ c, x = .bl c ∧ if c = true then Q (.bl true) H1 else tb σ H1 Q) : tOrV ta tb σ H Q := h
theorem z_notV (h : ta σ H fun x H1 => ∃ c, x = .bl c ∧ Q (.bl (!c)) H1) : tNotV ta σ H Q := h
theorem z_ifE (h : tt σ H fun c H1 => if c = true then ta σ H1 Q else tb σ H1 Q) : tIf tt ta tb σ H Q := h
theorem z_blQ {b : Bool} {R : Bool → Prop} (h : R b) : ∃ c, V.bl b = .bl c ∧ R c := ⟨b, rfl, h⟩
theorem z_cons {tr : TA} {AQ : List V → Hp → Prop} (h : ta σ H fun x H1 => tr σ H1 fun xs H2 => AQ (x :: xs) H2) : tCons ta tr σ H AQ := h
theorem z_nil {AQ : List V → Hp → Prop} (h : AQ [] H) : tNil σ H AQ := h
theorem z_tup {t : TA} (h : t σ H fun xs H1 => xs.length ≤ sizeLine ∧ ∀ p, H1 p = none → Q (.ref p) (upd H1 p (.tup xs))) : tTup t σ H Q := h
theorem z_lst {t : TA} (h : t σ H fun xs H1 => xs.length ≤ sizeLine ∧ ∀ p, H1 p = none → Q (.ref p) (upd H1 p (.lst xs))) : tLst t σ H Q := h
theorem z_call {sp : Sp} {E : XK} {t : TA} (h : t σ H fun vs H1 => sp (vs ++ []) H1 Q E) : tCall sp [] E t σ H Q := h
theorem z_callS {sp : Sp} {E : St → XK} {t : TA} (h : t σ H fun vs H1 => sp vs H1 Q (E σ)) : tCallS sp E t σ H Q := h
theorem z_cb {r : List V → Hp → VK → Prop} {t : TA} (h : t σ H fun vs H1 => r vs H1 Q) : tCB r t σ H Q := h
theorem z_chain {r r' : R2} (h : ta σ H fun x H1 => tb σ H1 fun y H2 => r x y H2 fun z H3 => ∃ k, z = .bl k ∧ (if k = true then tc σ H3 fun z' H4 => r' y z' H4 Q else Q (.bl false) H3)) : tChain r r' ta tb tc σ H Q := h
/-! ### operators on values -/
theorem z_I0 {g : Int → Int → V} {i j : Int} (k : Q (g i j) H) : rI0 g (.int i) (.int j) H Q := ⟨i, j, rfl, rfl, k⟩
theorem z_I {C : Int → Int → Prop} {g : Int → Int → V} {i j : Int} (c : C i j) (k : Q (g i j) H) : rI C g (.int i) (.int j) H Q := ⟨i, j, rfl, rfl, c, k⟩
theorem z_U {g : Int → V} {i : Int} (k : Q (g i) H) : rU g (.int i) H Q := ⟨i, rfl, k⟩
theorem z_addI {i j : Int} (k : Q (.int (i + j)) H) : rAddU K (.int i) (.int j) H Q := .inl ⟨i, j, rfl, rfl, k⟩
theorem z_addS {i j : Str} (c : i.length + j.length ≤ sizeLine) (k : Q (.str (i ++ j)) H) : rAddU K (.str i) (.str j) H Q := .inr (.inl ⟨i, j, rfl, rfl, c, k⟩)
theorem z_addL {a b : Addr} {xs zs : List V} (h1 : H a = some (.lst xs)) (h2 : H b = some (.lst zs)) (c : xs.length + zs.length ≤ sizeLine) (k : ∀ p, H p = none → Q (.ref p) (upd H p (.lst (xs ++ zs)))) : rAddU K (.ref a) (.ref b) H Q :=
  .inr (.inr (.inl ⟨a, b, xs, zs, rfl, rfl, h1, h2, c, k⟩))
theorem z_mulI {i j : Int} (c : CMulX i j) (k : Q (.int (i * j)) H) : rMulU (.int i) (.int j) H Q := .inl ⟨i, j, rfl, rfl, c, k⟩
theorem z_mulL {l : Addr} {n : Int} {xs : List V} (h : H l = some (.lst xs)) (c1 : 0 ≤ n) (c2 : n < 2 ^ 62) (c3 : xs.length * n.toNat ≤ sizeLine) (k : ∀ p, H p = none → Q (.ref p) (upd H p (.lst (List.replicate n.toNat xs).flatten))) : rMulU (.ref l) (.int n) H Q :=
  .inr ⟨l, n, xs, rfl, rfl, h, by omega, by omega, c3, k⟩
theorem z_eqI {i j : Int} (k : Q (.bl (decide (i = j))) H) : rEqU K (.int i) (.int j) H Q := .inl ⟨rfl, by
  have e : decide (V.int i = V.int j) = decide (i = j) := by by_cases h : i = j <;> simp [h]
  rw [e]; exact k⟩
theorem z_neI {i j : Int} (k : Q (.bl (!decide (i = j))) H) : rNeU K (.int i) (.int j) H Q := .inl ⟨rfl, by
  have e : decide (V.int i = V.int j) = decide (i = j) := by by_cases h : i = j <;> simp [h]
  rw [e]; exact k⟩
theorem z_eqS {i j : Str} (k : Q (.bl (decide (i = j))) H) : rEqU K (.str i) (.str j) H Q := .inl ⟨rfl, by
  have e : decide (V.str i = V.str j) = decide (i = j) := by by_cases h : i = j <;> simp [h]
  rw [e]; exact k⟩
theorem z_neS {i j : Str} (k : Q (.bl (!decide (i = j))) H) : rNeU K (.str i) (.str j) H Q := .inl ⟨rfl, by
  have e : decide (V.str i = V.str j) = decide (i = j) := by by_cases h : i = j <;> simp [h]
  rw [e]; exact k⟩
theorem z_isN (k : Q (.bl (decide (x = .non))) H) : rIsX x .non H Q := ⟨.inl rfl, k⟩
theorem z_isB {b : Bool} (k : Q (.bl (decide (x = .bl b))) H) : rIsX x (.bl b) H Q := ⟨.inr ⟨b, rfl⟩, k⟩
end
end Mur
/-! Data in the heap (Dv) that stays; isinstance by kinds. -/
namespace Mur
open PySem hiding start
open PySem.Spec L2
open PyProof.Rows hiding St
theorem _root_.L2.Same.new {H : Hp} {p : Addr} {o : HO} (h : H p = none) : Same H (upd H p o) := fun a u e => by
  rw [upd_ne (ne_of_none e h)]; exact e
theorem _root_.L2.Same.set {H H' : Hp} {p : Addr} {o : HO} (e : Same H H') (h : H p = none) : Same H (upd H' p o) := fun a u q => by
  rw [upd_ne (ne_of_none q h)]; exact e a u q
theorem _root_.L2.Same.tup {K : PySem.W.Frag} {H H' : Hp} {a : Addr} {xs : List V} (e : Same H H') (h : SqT K H a xs) : SqT K H' a xs := by
  rcases h with (h | ⟨o, h⟩) | h
  · exact .inl (.inl (e _ _ h))
  · exact .inl (.inr ⟨o, e _ _ h⟩)
  · exact .inr h
mutual
inductive Dv (H : Hp) : V → PyData → Prop
  | non : Dv H .non .none
  | bl (b : Bool) : Dv H (.bl b) (.bool b)
  | int (i : Int) : Dv H (.int i) (.int i)
  | str (x : Str) : Dv H (.str x) (.str x)
  | lst {a : Addr} {xs : List V} {ds : List PyData} : H a = some (.lst xs) → DvAll H xs ds → Dv H (.ref a) (.list ds)
  | tup {a : Addr} {xs : List V} {ds : List PyData} : H a = some (.tup xs) → DvAll H xs ds → Dv H (.ref a) (.tuple ds)
inductive DvAll (H : Hp) : List V → List PyData → Prop
  | nil : DvAll H [] []
  | cons {v : V} {vs : List V} {d : PyData} {ds : List PyData} : Dv H v d → DvAll H vs ds → DvAll H (v :: vs) (d :: ds)
end
mutual
theorem dv_same {H H' : Hp} (e : Same H H') : ∀ {d : PyData} {v : V}, Dv H v d → Dv H' v d
  | _, _, .non => .non
  | _, _, .bl b => .bl b
  | _, _, .int i => .int i
  | _, _, .str x => .str x
  | _, _, .lst h a => .lst (e _ _ h) (dvAll_same e a)
  | _, _, .tup h a => .tup (e _ _ h) (dvAll_same e a)
theorem dvAll_same {H H' : Hp} (e : Same H H') : ∀ {ds : List PyData} {vs : List V}, DvAll H vs ds → DvAll H' vs ds
  | _, _, .nil => .nil
  | _, _, .cons h t => .cons (dv_same e h) (dvAll_same e t)
end
mutual
theorem Dv.dp {K : PySem.W.Frag} {H : Hp} : ∀ {d : PyData} {v : V}, Dv H v d → Dp K H v d
  | _, _, .non => .non
  | _, _, .bl b => .bl b
  | _, _, .int i => .int i
  | _, _, .str x => .str x
  | _, _, .lst h a => .lst (SqL.of h) (DvAll.dp a)
  | _, _, .tup h a => .tup (SqT.of h) (DvAll.dp a)
theorem DvAll.dp {K : PySem.W.Frag} {H : Hp} : ∀ {ds : List PyData} {vs : List V}, DvAll H vs ds → DpAll K H vs ds
  | _, _, .nil => .nil
  | _, _, .cons h t => .cons (Dv.dp h) (DvAll.dp t)
end
theorem DvAll.len {H : Hp} : ∀ {ds : List PyData} {vs : List V}, DvAll H vs ds → vs.length = ds.length
  | _, _, .nil => rfl
  | _, _, .cons _ t => by simp [t.len]
theorem DvAll.get {H : Hp} : ∀ {ds : List PyData} {vs : List V} {i : Nat} {v : V}, DvAll H vs ds → vs[i]? = some v → ∃ d, ds[i]? = some d ∧ Dv H v d
  | _, _, _, _, .nil, e => by simp at e
  | _, _, 0, _, .cons h _, e => by simp at e; subst e; exact ⟨_, rfl, h⟩
  | _, _, i + 1, v, .cons _ t, e => by
    obtain ⟨d, h1, h2⟩ := DvAll.get (i := i) (v := v) t (by simpa using e)
    exact ⟨d, by simpa using h1, h2⟩
theorem DvAll.ints {H : Hp} : ∀ ns : List Int, DvAll H (ns.map V.int) (ns.map PyData.int)
  | [] => .nil
  | n :: ns => .cons (.int n) (DvAll.ints ns)
/-! how deep data are: scalars 0 -/
mutual
def dpt : PyData → Nat
  | .list ds => dptAll ds + 1
  | .tuple ds => dptAll ds + 1
  | _ => 0
def dptAll : List PyData → Nat
  | [] => 0
  | d :: ds => max (dpt d) (dptAll ds)
end
theorem dpt_mem : ∀ {ds : List PyData} {i : Nat} {d : PyData}, ds[i]? = some d → dpt d ≤ dptAll ds
  | [], i, d, e => by simp at e
  | x :: ds, 0, d, e => by simp at e; subst e; simp only [dptAll]; omega
  | x :: ds, i + 1, d, e => by
    have := dpt_mem (ds := ds) (i := i) (d := d) (by simpa using e)
    simp only [dptAll]; omega
/-! ### isinstance -/
def tyD : PyData → String
  | .none => "NoneType"
  | .bool _ => "bool"
  | .int _ => "int"
  | .str _ => "str"
  | .list _ => "list"
  | .tuple _ => "tuple"
  | _ => ""
theorem Dv.ty {K : PySem.W.Frag} {H : Hp} {d : PyData} {v : V} (h : Dv H v d) : TyX K H v (.type (tyD d)) := by
  cases h with
  | non => exact .base .non
  | bl b => exact .base (.bl b)
  | int i => exact .base (.int i)
  | str x => exact .base (.str x)
  | lst h _ => exact .base (.lst h)
  | tup h _ => exact .base (.tup h)
theorem z_isi {K : PySem.W.Frag} {H : Hp} {Q : VK} {x : V} {a n : String} {b : Bool} (ty : TyX K H x (.type a)) (e : kitB a n = some b) (k : Q (.bl b) H) : rIsi K [x, .ty n] H Q := ⟨x, .ty n, .type a, .type n, b, rfl, .ty n, ty, kit_ty e, k⟩
section
variable {K : PySem.W.Frag} {H : Hp} {Q : VK} {n : String} {a : Addr} {xs : List V}
theorem z_isI {i : Int} (b : Bool) (e : kitB "int" n = some b) (k : Q (.bl b) H) : rIsi K [.int i, .ty n] H Q := z_isi (.base (.int i)) e k
theorem z_isNn (b : Bool) (e : kitB "NoneType" n = some b) (k : Q (.bl b) H) : rIsi K [.non, .ty n] H Q := z_isi (.base .non) e k
theorem z_isBl {i : Bool} (b : Bool) (e : kitB "bool" n = some b) (k : Q (.bl b) H) : rIsi K [.bl i, .ty n] H Q := z_isi (.base (.bl i)) e k
theorem z_isS {i : Str} (b : Bool) (e : kitB "str" n = some b) (k : Q (.bl b) H) : rIsi K [.str i, .ty n] H Q := z_isi (.base (.str i)) e k
theorem z_isT (b : Bool) (h : H a = some (.tup xs)) (e : kitB "tuple" n = some b) (k : Q (.bl b) H) : rIsi K [.ref a, .ty n] H Q := z_isi (.base (.tup h)) e k
theorem z_isL (b : Bool) (h : H a = some (.lst xs)) (e : kitB "list" n = some b) (k : Q (.bl b) H) : rIsi K [.ref a, .ty n] H Q := z_isi (.base (.lst h)) e k
end
/-! ### len, items, lists -/
def rLenU (K : PySem.W.Frag) : List V → Hp → VK → Prop := fun xs H Q => ∃ x n, xs = [x] ∧ LenV K x H n ∧ Q (.int n) H
theorem call_lenU {X : Cx} : CallR X (.builtin "len") (rLenU X.K) := call_len
def rLstU (K : PySem.W.Frag) : List V → Hp → VK → Prop := fun xs H Q => ∃ p ys, xs = [.ref p] ∧ (SqL K H p ys ∨ SqT K H p ys) ∧ ∀ l, H l = none → Q (.ref l) (upd H l (.lst ys))
theorem call_listU {X : Cx} : CallR X (.type "list") (rLstU X.K) := call_list_of
def rTupU (K : PySem.W.Frag) : List V → Hp → VK → Prop := fun xs H Q => ∃ p ys, xs = [.ref p] ∧ ((SqL K H p ys ∧ ∀ l, H l = none → Q (.ref l) (upd H l (.tup ys))) ∨ (SqT K H p ys ∧ Q (.ref p) H))
theorem call_tupleU {X : Cx} : CallR X (.type "tuple") (rTupU X.K) := call_tuple_of
def rAbs : List V → Hp → VK → Prop := fun xs H Q => ∃ i, xs = [.int i] ∧ Q (.int (if i < 0 then -i else i)) H
theorem call_absU {X : Cx} : CallR X (.builtin "abs") rAbs := call_abs
def rInt1 : List V → Hp → VK → Prop := fun xs H Q => (∃ i, xs = [.int i] ∧ Q (.int i) H) ∨ ∃ k, xs = [.bl k] ∧ Q (.int (if k then 1 else 0)) H
theorem call_intU {X : Cx} : CallR X (.type "int") rInt1 := call_int1
def rGetL (K : PySem.W.Frag) : R2 := fun x y H Q => ∃ p xs, ∃ n : Nat, ∃ v, x = .ref p ∧ y = .int (n : Int) ∧ SqL K H p xs ∧ xs[n]? = some v ∧ Q v H
theorem get_list {X : Cx} : PGet X (rGetL X.K) := by
  intro pins s σ H x y v u Q I rx ry h
  obtain ⟨p, xs, n, z, rfl, rfl, hp, e, q⟩ := h
  cases (show v = Value.ref p from rx)
  obtain ⟨t, rfl⟩ := ry
  obtain ⟨its, rv, pl, hz⟩ := I.list hp
  obtain ⟨w', hw, rw'⟩ := rv.get e
  have hn := line63
  have hl := (List.getElem?_eq_some_iff.mp e).1
  exact wpAny_getItem_list pl.isList (by omega) (by omega) (by simpa using hw) ⟨z, H, I, rw', q⟩
/-! the rules with the written part named, so that they fit within a comprehension's block, too -/
section
variable {X : Cx} {e o b value : Expr} {es : List Expr} {ta te to tb tv : TE} {t : TA} {f : Str} {pos pos' apos cpos : Pos}
theorem k_fld (K : PySem.W.Frag) (he : PE X e ta) (hb : attributeBase e f X.env (eval e X.env) = eval e X.env) (hK : X.K = K := by rfl) : PE X (.Attribute e f pos) (tFld K ta f) := by subst hK; exact pe_fld he hb
theorem k_sfld (K : PySem.W.Frag) (ha : PE X o ta) (hv : PE X value tv) (hs : swapsWith value (some (.Attribute o f pos')) pos.line X.env = pure false) (hK : X.K = K := by rfl) : PS X (.Assign [.Attribute o f pos'] value pos) (sFld K ta tv f) := by subst hK; exact ps_fld ha hv hs
theorem k_ix (K : PySem.W.Frag) (ha : PE X o ta) (hb : PE X b tb) (hs : PlainIx b) (hK : X.K = K := by rfl) : PE X (.Subscript o b pos) (tOp (rIx K) ta tb) := by subst hK; exact pe_ix ix_seq ha hb hs
theorem k_eq (K : PySem.W.Frag) (hu : X.A.units + 64 < cLine) (hK : X.K = K := by rfl) : OpR X (compareOp .Eq) (rEqU K) := by subst hK; exact op_eqU hu
theorem k_ne (K : PySem.W.Frag) (hu : X.A.units + 64 < cLine) (hK : X.K = K := by rfl) : OpR X (compareOp .NotEq) (rNeU K) := by subst hK; exact op_neU hu
theorem k_add (K : PySem.W.Frag) (hK : X.K = K := by rfl) : OpR X (binaryOp .Add) (rAddU K) := by subst hK; exact op_addU
theorem k_isi (K : PySem.W.Frag) (hK : X.K = K := by rfl) : CallR X (.builtin "isinstance") (rIsi K) := by subst hK; exact call_isi
theorem k_len (K : PySem.W.Frag) (hK : X.K = K := by rfl) : CallR X (.builtin "len") (rLenU K) := by subst hK; exact call_lenU
theorem k_list (K : PySem.W.Frag) (hK : X.K = K := by rfl) : CallR X (.type "list") (rLstU K) := by subst hK; exact call_listU
theorem k_tuple (K : PySem.W.Frag) (hK : X.K = K := by rfl) : CallR X (.type "tuple") (rTupU K) := by subst hK; exact call_tupleU
theorem k_sum (K : PySem.W.Frag) (hc : X.calm = true) (hK : X.K = K := by rfl) : CallR X (.builtin "sum") (rSum K) := by subst hK; exact cr_sum hc
theorem k_max (K : PySem.W.Frag) (hc : X.calm = true) (hK : X.K = K := by rfl) : CallR X (.builtin "max") (rMax K) := by subst hK; exact cr_max hc
theorem k_min (K : PySem.W.Frag) (hc : X.calm = true) (hK : X.K = K := by rfl) : CallR X (.builtin "min") (rMin K) := by subst hK; exact cr_min hc
theorem k_in (K : PySem.W.Frag) (hK : X.K = K := by rfl) : OpR X (compareOp .In) (rIn K false) := by subst hK; exact op_in_seq
theorem k_notin (K : PySem.W.Frag) (hK : X.K = K := by rfl) : OpR X (compareOp .NotIn) (rIn K true) := by subst hK; exact op_notIn_seq
theorem k_sll (K : PySem.W.Frag) (hK : X.K = K := by rfl) : SlR X (rSlL K) := by subst hK; exact sl_list
theorem k_slt (K : PySem.W.Frag) (hK : X.K = K := by rfl) : SlR X (rSlA K) := by subst hK; exact sl_tupA
theorem k_get (K : PySem.W.Frag) (hK : X.K = K := by rfl) : PGet X (rGetL K) := by subst hK; exact get_list
theorem k_pil {tg l : Expr} {tl : TE} (K : PySem.W.Frag) (hl : PE X l tl) (hK : X.K = K := by rfl) : PI X tg l (iList K tl) := by subst hK; exact pi_list hl
theorem k_pit {tg l : Expr} {tl : TE} (K : PySem.W.Frag) (hl : PE X l tl) (hK : X.K = K := by rfl) : PI X tg l (iTup K tl) := by subst hK; exact pi_tup hl
theorem k_pgt {k : Nat} {tt : TGs} {n : Nat} (K : PySem.W.Frag) (hc : X.calm = true) (h : PGs X es tt) (hK : X.K = K := by rfl)
    (hn : (assignEach es X.env).length = n := by rfl) (hst : (assignEach es X.env).findIdx? (·.1) = none := by rfl) : PG X (.Tuple es k pos) (gTup K n tt) := by subst hK; exact pg_tup hc h hn hst
theorem k_enum {p tpos : Pos} {elts : List Expr} {kk : Nat} (K : PySem.W.Frag) (hg : Gl X "enumerate") (hm : X.mg "enumerate" = none) (ha : PA X [e] t) (hK : X.K = K := by rfl) (hs : starEach [e] X.env = [(false, eval e X.env)] := by rfl) :
    PI X (.Tuple elts kk tpos) (.Call (.Name "enumerate" p) [e] [] pos) (iEnum K t) := by subst hK; exact pi_enum hg hm ha hs
theorem k_zip {e2 : Expr} {p tpos : Pos} {elts : List Expr} {kk : Nat} (K : PySem.W.Frag) (hg : Gl X "zip") (hm : X.mg "zip" = none) (ha : PA X [e, e2] t) (hK : X.K = K := by rfl)
    (hs : starEach [e, e2] X.env = (false, eval e X.env) :: starEach [e2] X.env := by rfl) (hpl : (backTo pos (starEach [e2] X.env)).any (·.1) = false := by rfl) :
    PI X (.Tuple elts kk tpos) (.Call (.Name "zip" p) [e, e2] [] pos) (RZ.iZipA K t) := by subst hK; exact RZ.pi_zipA hg hm ha hs hpl
theorem k_bm {T id : String} {name : Str} {r : V → List V → Hp → VK → Prop} (K : PySem.W.Frag) (pa : PlainAttrs T) (slot : Slot T name id) (hty : typeOf (.builtin id) = pure (.type "method_descriptor")) (hm : MtR X id r) (ho : PE X o to) (ha : PA X (e :: es) t) (hK : X.K = K := by rfl)
    (hbase : attributeBase o name X.env (eval o X.env) = eval o X.env := by rfl)
    (hfew : ((backTo cpos (starEach (e :: es) X.env)).all (fun x => !x.1) && (backToKw cpos (keywordEach [] X.env)).all (fun x => x.1.isSome)
      && decide ((e :: es).length + ([] : List Keyword).length + (if ([] : List Keyword).isEmpty then 0 else 1) < 30)) = true := by rfl)
    (hline : (apos.endLine == cpos.line) = true := by rfl) (hs : starEach (e :: es) X.env = (false, eval e X.env) :: starEach es X.env := by rfl) (hplain : (backTo cpos (starEach es X.env)).any (·.1) = false := by rfl) :
    PE X (.Call (.Attribute o name apos) (e :: es) [] cpos) (tBM K T r to t) := by subst hK; exact pe_bm pa slot hty hm ho ha hbase hfew hline hs hplain
theorem k_bm0 {T id : String} {name : Str} {r : V → List V → Hp → VK → Prop} (K : PySem.W.Frag) (pa : PlainAttrs T) (slot : Slot T name id) (hty : typeOf (.builtin id) = pure (.type "method_descriptor")) (hm : MtR X id r) (ho : PE X o to) (hK : X.K = K := by rfl)
    (hbase : attributeBase o name X.env (eval o X.env) = eval o X.env := by rfl) (hline : (apos.endLine == cpos.line) = true := by rfl) : PE X (.Call (.Attribute o name apos) [] [] cpos) (tBM0 K T r to) := by subst hK; exact pe_bm0 pa slot hty hm ho hbase hline
end
section
variable {K : PySem.W.Frag} {H : Hp} {Q : VK} {a l : Addr} {xs : List V} {v y : V} {i : Int}
theorem z_lenL (h : SqL K H a xs) (k : Q (.int (xs.length : Nat)) H) : rLenU K [.ref a] H Q := ⟨.ref a, _, rfl, .inl ⟨_, h, rfl⟩, k⟩
theorem z_lenT (h : SqT K H a xs) (k : Q (.int (xs.length : Nat)) H) : rLenU K [.ref a] H Q := ⟨.ref a, _, rfl, .inr ⟨_, h, rfl⟩, k⟩
theorem z_lenS {z : Str} (h : z.length ≤ sizeLine) (k : Q (.int (z.length : Nat)) H) : rLenU K [.str z] H Q := ⟨.str z, _, rfl, ⟨h, rfl⟩, k⟩
theorem z_listL (h : SqL K H a xs) (k : ∀ l, H l = none → Q (.ref l) (upd H l (.lst xs))) : rLstU K [.ref a] H Q := ⟨a, xs, rfl, .inl h, k⟩
theorem z_listT (h : SqT K H a xs) (k : ∀ l, H l = none → Q (.ref l) (upd H l (.lst xs))) : rLstU K [.ref a] H Q := ⟨a, xs, rfl, .inr h, k⟩
theorem z_tupL (h : SqL K H a xs) (k : ∀ l, H l = none → Q (.ref l) (upd H l (.tup xs))) : rTupU K [.ref a] H Q := ⟨a, xs, rfl, .inl ⟨h, k⟩⟩
theorem z_new {o : HO} (k : ∀ p H2, Same H H2 → H p = none → H2 p = some o → Q (.ref p) H2) : ∀ p, H p = none → Q (.ref p) (upd H p o) := fun p hp => k p _ (Same.new hp) hp upd_same
theorem z_newD {o : HO} {c : Prop} (hc : c) (k : ∀ p H2, Same H H2 → H p = none → H2 p = some o → Q (.ref p) H2) : c ∧ ∀ p, H p = none → Q (.ref p) (upd H p o) := ⟨hc, z_new k⟩
theorem new_same {p : Addr} {o : HO} {H2 : Hp} (hp : H p = none) (e : upd H p o = H2) : Same H H2 := e ▸ Same.new hp
theorem new_at {p : Addr} {o : HO} {H2 : Hp} (e : upd H p o = H2) : H2 p = some o := e ▸ upd_same
theorem same_to {H H' : Hp} {a : Addr} {o : HO} (s : Same H H') (h : H a = some o) : H' a = some o := s _ _ h
theorem z_abs (k : Q (.int (if i < 0 then -i else i)) H) : rAbs [.int i] H Q := ⟨i, rfl, k⟩
theorem z_int1 (k : Q (.int i) H) : rInt1 [.int i] H Q := .inl ⟨i, rfl, k⟩
theorem z_intB {b : Bool} (k : Q (.int (if b then 1 else 0)) H) : rInt1 [.bl b] H Q := .inr ⟨b, rfl, k⟩
theorem z_ixL (h : SqL K H a xs) (e : atI xs i = some v) (k : Q v H) : rIx K (.ref a) (.int i) H Q := .inl ⟨a, xs, i, v, rfl, rfl, h, e, k⟩
theorem z_ixT (h : SqT K H a xs) (e : atI xs i = some v) (k : Q v H) : rIx K (.ref a) (.int i) H Q := .inr (.inl ⟨a, xs, i, v, rfl, rfl, h, e, k⟩)
theorem z_tyL {B : Prop} (h : SqL K H a xs) (k : B) : tyV K "list" (.ref a) H ∧ B := ⟨.inl ⟨rfl, _, h⟩, k⟩
theorem z_bm {T : String} {r : V → List V → Hp → VK → Prop} {to : TE} {t : TA} {σ : L2.St} (h : to σ H fun x H1 => tyV K T x H1 ∧ t σ H1 fun xs H2 => r x xs H2 Q) : tBM K T r to t σ H Q := h
theorem z_bm0 {T : String} {r : V → List V → Hp → VK → Prop} {to : TE} {σ : L2.St} (h : to σ H fun x H1 => tyV K T x H1 ∧ r x [] H1 Q) : tBM0 K T r to σ H Q := h
theorem z_app (h : H l = some (.lst xs)) (c : xs.length < sizeLine) (k : Q .non (upd H l (.lst (xs ++ [y])))) : rAppend (.ref l) [y] H Q := ⟨l, xs, y, rfl, rfl, h, c, k⟩
theorem atI_of {n : Nat} (h : xs[n]? = some v) (e : i = (n : Int)) : atI xs i = some v := by rw [e]; exact atI_nat h
/-! a method's call, an attribute -/
def rDNi (y : V) : V → Hp → VK → Prop := fun x H Q => ∃ a o, x = .ref a ∧ DGet H a y o ∧ Q (.bl (!o.isSome)) H
def rDIn (y : V) : V → Hp → VK → Prop := fun x H Q => ∃ a o, x = .ref a ∧ DGet H a y o ∧ Q (.bl o.isSome) H
def rDGt (x : V) : V → Hp → VK → Prop := fun y H Q => ∃ a v, x = .ref a ∧ DGet H a y (some v) ∧ Q v H
def rDPt (v x : V) : V → Hp → (Hp → Prop) → Prop := fun y H R => ∃ a H4, x = .ref a ∧ DPut H a y v H4 ∧ R H4
theorem z_dnotin {ty td : TE} {σ : L2.St} (h : ty σ H fun y H1 => td σ H1 fun x H2 => rDNi y x H2 Q) : tDNotIn ty td σ H Q := h
theorem z_din {ty td : TE} {σ : L2.St} (h : ty σ H fun y H1 => td σ H1 fun x H2 => rDIn y x H2 Q) : tDIn ty td σ H Q := h
theorem z_dget {ty td : TE} {σ : L2.St} (h : td σ H fun x H1 => ty σ H1 fun y H2 => rDGt x y H2 Q) : tDGet td ty σ H Q := h
theorem z_dput {ty td tv : TE} {σ : L2.St} {D : Ends} (h : tv σ H fun v H1 => td σ H1 fun x H2 => ty σ H2 fun y H3 => rDPt v x y H3 (D.nx σ)) : sDPut td ty tv D σ H := h
theorem z_dniR {o : Option V} (h : DGet H a y o) (k : Q (.bl (!o.isSome)) H) : rDNi y (.ref a) H Q := ⟨a, o, rfl, h, k⟩
theorem z_dinR {o : Option V} (h : DGet H a y o) (k : Q (.bl o.isSome) H) : rDIn y (.ref a) H Q := ⟨a, o, rfl, h, k⟩
theorem z_dgetR (h : DGet H a y (some v)) (k : Q v H) : rDGt (.ref a) y H Q := ⟨a, v, rfl, h, k⟩
theorem z_dputR {H4 : Hp} {R : Hp → Prop} (h : DPut H a y v H4) (k : R H4) : rDPt v (.ref a) y H R := ⟨a, H4, rfl, h, k⟩
def rFld (K : PySem.W.Frag) (f : Str) : V → Hp → VK → Prop := fun x H Q => ∃ a C dx fs v, x = .ref a ∧ H a = some (.ins C dx fs) ∧ Cls K C ∧ NoAttr K C f ∧ fs.lookup f = some v ∧ Q v H
theorem z_fld {ta : TE} {σ : L2.St} {f : Str} (h : ta σ H fun x H1 => rFld K f x H1 Q) : tFld K ta f σ H Q := h
theorem z_fldR {C dx : Addr} {fs : List (Str × V)} {f : Str} (h : H a = some (.ins C dx fs)) (c : Cls K C) (n : NoAttr K C f) (e : fs.lookup f = some v) (k : Q v H) : rFld K f (.ref a) H Q := ⟨a, C, dx, fs, v, rfl, h, c, n, e, k⟩
def rSfl (K : PySem.W.Frag) (f : Str) (y : V) : V → Hp → (Hp → Prop) → Prop := fun x H R => ∃ a C dx fs, x = .ref a ∧ H a = some (.ins C dx fs) ∧ Cls K C ∧ NoAttr K C f ∧ fs.length < 1000 ∧ R (upd H a (.ins C dx (putF f y fs)))
theorem z_sfld {ta tv : TE} {σ : L2.St} {D : Ends} {f : Str} (h : tv σ H fun y H1 => ta σ H1 fun x H2 => rSfl K f y x H2 (D.nx σ)) : sFld K ta tv f D σ H := h
theorem z_sfldR {C dx : Addr} {fs : List (Str × V)} {f : Str} {y : V} {R : Hp → Prop} {fs' : List (Str × V)} (h : H a = some (.ins C dx fs)) (c : Cls K C) (n : NoAttr K C f) (l : fs.length < 1000) (e : putF f y fs = fs') (k : R (upd H a (.ins C dx fs'))) :
    rSfl K f y (.ref a) H R := ⟨a, C, dx, fs, rfl, h, c, n, l, by rw [e]; exact k⟩
theorem z_dnewT {σ : L2.St} (h : ∀ p, H p = none → Q (.ref p) (upd H p (.dT []))) : tDNewT σ H Q := h
theorem z_dnewK {σ : L2.St} (h : ∀ p, H p = none → Q (.ref p) (upd H p (.dK []))) : tDNewK σ H Q := h
theorem z_meth {C : Addr} {m : Str} {sp : Sp} {E : XK} {ta : TE} {t : TA} {σ : L2.St} (h : ta σ H fun x H1 => ∃ a dx fs, x = .ref a ∧ H1 a = some (.ins C dx fs) ∧ fs.lookup m = none ∧ t σ H1 fun vs H2 => sp (x :: (vs ++ [])) H2 Q E) : tMeth C m sp [] E ta t σ H Q := h
theorem z_methR {C dx : Addr} {m : Str} {fs : List (Str × V)} {R : Prop} (h : H a = some (.ins C dx fs)) (e : fs.lookup m = none) (k : R) : ∃ a' dx fs, V.ref a = .ref a' ∧ H a' = some (.ins C dx fs) ∧ fs.lookup m = none ∧ R := ⟨a, dx, fs, rfl, h, e, k⟩
end
/-! loops, tuple targets -/
section
variable {K : PySem.W.Frag} {σ σ' : L2.St} {H : Hp} {D : Ends} {GQ : L2.St → Hp → Prop}
theorem z_for {wi : TI} {g : TG} {tb : TS} (h : wi σ H fun J H1 => ∃ W : Nat → Nat → L2.St → Hp → Prop, (∃ m, W 0 m σ H1) ∧ ∀ i m σ H, W i m σ H →
  (J.stop i H ∧ D.nx σ H) ∨ (J.go i H ∧ ∃ N : L2.St → Hp → Prop, (∀ σ' H', N σ' H' → ∃ m', m' < m ∧ W (i + 1) m' σ' H') ∧ ∀ x H', J.yld i H x H' → g x σ H' fun σ2 H2 => tb { D with nx := N, ct := N, bk := D.nx } σ2 H2)) : tFor wi g tb D σ H := h
theorem z_zipA {ta : TA} {R : It → Hp → Prop} (h : ta σ H fun vs H1 => ∃ a b xs ys, vs = [.ref a, .ref b] ∧ ((SqL K H1 a xs ∧ SqL K H1 b ys ∧ R (Itz K a b) H1) ∨ (SqT K H1 a xs ∧ SqT K H1 b ys ∧ R (RZ.ItzT K a b) H1))) : RZ.iZipA K ta σ H R := h
theorem z_enum {ta : TA} {R : It → Hp → Prop} (h : ta σ H fun vs H1 => ∃ a xs, vs = [.ref a] ∧ SqL K H1 a xs ∧ R (Ite K a) H1) : iEnum K ta σ H R := h
theorem z_iList {tl : TE} {R : It → Hp → Prop} (h : tl σ H fun x H1 => ∃ a, x = .ref a ∧ (∃ xs, SqL K H1 a xs) ∧ R (Itl K a) H1) : iList K tl σ H R := h
theorem z_iTup {tl : TE} {R : It → Hp → Prop} (h : tl σ H fun x H1 => ∃ a, x = .ref a ∧ (∃ xs, SqT K H1 a xs) ∧ R (Itt K a) H1) : iTup K tl σ H R := h
theorem z_rng1 {ta : TA} {R : It → Hp → Prop} (h : ta σ H fun vs H1 => ∃ j : Int, vs = [.int j] ∧ -(2 ^ 62) ≤ j ∧ j < 2 ^ 62 ∧ R (Itr 0 j.toNat) H1) : iRng1 ta σ H R := h
theorem z_rng2 {ta : TA} {R : It → Hp → Prop} (h : ta σ H fun vs H1 => ∃ i j : Int, vs = [.int i, .int j] ∧ (-(2 ^ 62) ≤ i ∧ i < 2 ^ 62 ∧ -(2 ^ 62) ≤ j ∧ j < 2 ^ 62) ∧ R (Itr i (j - i).toNat) H1) : iRng2 ta σ H R := h
theorem z_gTup {n : Nat} {t : TGs} {a : Addr} {xs : List V} (h : SqT K H a xs) (e : xs.length = n) (k : t xs σ H GQ) : gTup K n t (.ref a) σ H GQ := ⟨a, xs, rfl, h, e, k⟩
theorem z_gCons {t : TG} {u : TGs} {v : V} {r : List V} (k : t v σ H fun σ' H' => u r σ' H' GQ) : gCons t u (v :: r) σ H GQ := ⟨v, r, rfl, k⟩
theorem z_gNil (k : GQ σ H) : gNil [] σ H GQ := ⟨rfl, k⟩
theorem z_lc {wi : TI} {g : TG} {tt : TT} {te : TE} {vs : List Nat} {Q : VK} (h : wi σ H fun J H1 => ∀ D, H1 D = none → ∃ W : Nat → Nat → Hp → Prop, (∃ m, W 0 m (upd H1 D (.lst []))) ∧ ∀ i m H, W i m H →
  (J.stop i H ∧ Q (.ref D) H) ∨ (J.go i H ∧ ∃ Nx : Hp → Prop, (∀ H', Nx H' → ∃ m', m' < m ∧ W (i + 1) m' H') ∧ ∀ x H', J.yld i H x H' → g x (wipe σ vs) H' fun σ2 H2 => wipe σ2 vs = wipe σ vs ∧ tt σ2 H2 fun b H3 =>
    if b = true then te σ2 H3 fun y H4 => ∃ acc, H4 D = some (.lst acc) ∧ acc.length < sizeLine ∧ Nx (upd H4 D (.lst (acc ++ [y]))) else Nx H3)) : tLc wi g tt te vs σ H Q := h
theorem z_tyes {TQ : Bool → Hp → Prop} (h : TQ true H) : tYes σ H TQ := h
theorem z_ans {tt : TT} {TQ : Bool → Hp → Prop} (b : Bool) (h : ∀ R : Bool → Hp → Prop, R b H → tt σ H R) (k : TQ b H) : tt σ H TQ := h _ k
theorem z_augS {to ti te : TE} {tget : V → V → Hp → VK → Prop} {tip : TIp} {tset : TSet} (h : to σ H fun o H1 => ti σ H1 fun i H2 => tget o i H2 fun x H3 => te σ H3 fun y H4 => tip x y H4 fun z H5 => tset o i z H5 fun H6 => D.nx σ H6) : tAugS to ti te tget tip tset D σ H := h
theorem z_getL {a : Addr} {xs : List V} {n : Nat} {i : Int} {v : V} {Q : VK} (h : SqL K H a xs) (ei : i = (n : Int)) (e : xs[n]? = some v) (k : Q v H) : rGetL K (.ref a) (.int i) H Q := ⟨a, xs, n, v, rfl, by rw [ei], h, e, k⟩
theorem z_ipI {f : Int → Int → Int} {i j : Int} {Q : VK} (k : Q (.int (f i j)) H) : ipI f (.int i) (.int j) H Q := ⟨i, j, rfl, rfl, k⟩
theorem z_setL {a : Addr} {xs : List V} {n : Nat} {i : Int} {v : V} {R : Hp → Prop} (h : H a = some (.lst xs)) (ei : i = (n : Int)) (l : n < xs.length) (k : R (upd H a (.lst (xs.set n v)))) : rSetL (.ref a) (.int i) v H R :=
  ⟨a, xs, i, n, rfl, rfl, h, by rw [ei]; unfold ixN; rw [if_pos (by omega), if_pos (by omega)]; simp, k⟩
theorem z_gSub {to ti : TE} {t : TSet} {v : V} (h : to σ H fun o H1 => ti σ H1 fun i H2 => t o i v H2 fun H3 => GQ σ H3) : gSub to ti t v σ H GQ := h
theorem z_max {a : Addr} {ns : List Int} {Q : VK} (h : SqL K H a (ns.map V.int)) (l : 0 < ns.length) (k : ∀ m, m ∈ ns → (∀ y, y ∈ ns → y ≤ m) → Q (.int m) H) : rMax K [.ref a] H Q := ⟨a, ns, rfl, h, l, k⟩
theorem z_min {a : Addr} {ns : List Int} {Q : VK} (h : SqL K H a (ns.map V.int)) (l : 0 < ns.length) (k : ∀ m, m ∈ ns → (∀ y, y ∈ ns → m ≤ y) → Q (.int m) H) : rMin K [.ref a] H Q := ⟨a, ns, rfl, h, l, k⟩
theorem map_set {α : Type} (f : Nat → α) (n k : Nat) (v : α) : ((List.range n).map f).set k v = (List.range n).map fun j => if j = k then v else f j := by
  apply List.ext_getElem?
  intro i
  rw [List.getElem?_set, List.getElem?_map, List.getElem?_map, List.length_map, List.length_range]
  by_cases h : k = i
  · subst h
    by_cases hi : k < n
    · simp [hi]
    · simp [hi]
  · have h' : ¬ i = k := fun z => h z.symm
    by_cases hi : i < n <;> simp [h, h', hi]
theorem z_ntrue {A B : Prop} (k : B) : if (!true) = true then A else B := iteF k
theorem z_nfalse {A B : Prop} (k : A) : if (!false) = true then A else B := iteT k
end
/-! slices, dicts read with a word for what is not there, len(set(..)), locks, a try -/
section
variable {X : Cx} {a : Expr} {ta : TE} {p p2 q pos : Pos}
theorem k_lset (K : PySem.W.Frag) (hg : Gl X "len") (hm : X.mg "len" = none) (hg2 : Gl X "set") (hm2 : X.mg "set" = none) (ha : PE X a ta) (hc : X.calm = true := by rfl) (hK : X.K = K := by rfl)
    (na : starEach [a] X.env = (false, eval a X.env) :: starEach [] X.env := by rfl) : PE X (.Call (.Name "len" p) [.Call (.Name "set" p2) [a] [] q] [] pos) (RZ.tLenSetI K ta) := by subst hK; exact RZ.pe_lenSetI hg hm hg2 hm2 ha hc na
end
section
variable {K : PySem.W.Frag} {σ : L2.St} {H : Hp} {Q : VK}
def rLset (K : PySem.W.Frag) : V → Hp → VK → Prop := fun x H Q => ∃ (l : Addr) (ns : List Int), x = .ref l ∧ SqL K H l (ns.map V.int) ∧ ns.Nodup ∧ ns.length ≤ 4000 ∧ Q (.int (ns.length : Nat)) H
theorem z_lset {ta : TE} (h : ta σ H fun x H1 => rLset K x H1 Q) : RZ.tLenSetI K ta σ H Q := h
theorem z_lsetR {l : Addr} {ns : List Int} (h : SqL K H l (ns.map V.int)) (nd : ns.Nodup) (len : ns.length ≤ 4000) (k : Q (.int (ns.length : Nat)) H) : rLset K (.ref l) H Q := ⟨l, ns, rfl, h, nd, len, k⟩
theorem z_sl {r : V → Option Int → Option Int → Hp → VK → Prop} {te : TE} {tl th : TO} (h : te σ H fun x H1 => tl σ H1 fun l H2 => th σ H2 fun u H3 => r x l u H3 Q) : tSl r te tl th σ H Q := h
theorem z_noP {OQ : Option Int → Hp → Prop} (h : OQ none H) : tNoPart σ H OQ := h
theorem z_part {t : TE} {OQ : Option Int → Hp → Prop} (h : t σ H fun x H1 => ∃ i, x = .int i ∧ OQ (some i) H1) : tPart t σ H OQ := h
theorem z_slL {a : Addr} {xs ys : List V} {lo hi : Option Int} (h : SqL K H a xs) (e : cutV xs lo hi = ys) (k : ∀ p, H p = none → Q (.ref p) (upd H p (.lst ys))) : rSlL K (.ref a) lo hi H Q := ⟨a, xs, rfl, h, by rw [e]; exact k⟩
theorem cut_to (xs : List V) (n : Nat) : cutV xs none (some (n : Int)) = xs.take n := by
  unfold cutV
  rw [HT.sIx_none, HT.sIx_nat, List.drop_zero, Nat.sub_zero]
  rcases Nat.le_total n xs.length with h | h
  · rw [Nat.min_eq_left h]
  · rw [Nat.min_eq_right h, List.take_of_length_le (Nat.le_refl _), List.take_of_length_le h]
theorem cut_from (xs : List V) (n : Nat) : cutV xs (some (n : Int)) none = xs.drop n := by
  unfold cutV
  rw [HT.sIx_none, HT.sIx_nat]
  rcases Nat.le_total n xs.length with h | h
  · rw [Nat.min_eq_left h, List.take_of_length_le (by simp)]
  · rw [Nat.min_eq_right h, List.drop_eq_nil_of_le (Nat.le_refl _), List.drop_eq_nil_of_le h]; simp
theorem z_dget2 {td ty tx : TE} (h : td σ H fun x H1 => ∃ a, x = .ref a ∧ IsD H1 a ∧ ty σ H1 fun y H2 => tx σ H2 fun z H3 => ∃ o, DGet H3 a y o ∧ Q (o.getD z) H3) : tDGet2 td ty tx σ H Q := h
theorem z_isD {a : Addr} {R : Addr → Prop} (h : IsD H a) (k : R a) : ∃ a', V.ref a = .ref a' ∧ IsD H a' ∧ R a' := ⟨a, rfl, h, k⟩
theorem z_lockE {t : TE} {d : Addr} {u : HO} (h : H d = some u) (m : Mut (some u)) (k : ∀ od, t σ (upd H d (.frz od u)) fun v H' => H' d = some (.frz od u) ∧ Q v (upd H' d u)) : tLockE t σ H Q := ⟨d, u, h, m, k⟩
theorem z_lock {t : TS} {D : Ends} {d : Addr} {u : HO} (h : H d = some u) (m : Mut (some u))
    (k : ∀ od, t ⟨fun σ' H' => H' d = some (.frz od u) ∧ D.nx σ' (upd H' d u), fun v H' => H' d = some (.frz od u) ∧ D.rt v (upd H' d u), fun σ' H' => H' d = some (.frz od u) ∧ D.bk σ' (upd H' d u), fun σ' H' => H' d = some (.frz od u) ∧ D.ct σ' (upd H' d u)⟩ σ (upd H d (.frz od u))) : tLock t D σ H := ⟨d, u, h, m, k⟩
theorem z_keys {td : TE} {R : It → Hp → Prop} (h : td σ H fun x H1 => ∃ d o, x = .ref d ∧ ((∃ kvs, H1 d = some (.frz o (.dK kvs)) ∧ R (Itk d o kvs) H1) ∨ ∃ kvs, H1 d = some (.frz o (.dT kvs)) ∧ R (Itkt d o kvs) H1)) : iKeys td σ H R := h
theorem z_someI {n : Int} {R : Int → Prop} (k : R n) : ∃ i, V.int n = .int i ∧ R i := ⟨n, rfl, k⟩
theorem z_someB {n : Bool} {R : Bool → Prop} (k : R n) : ∃ i, V.bl n = .bl i ∧ R i := ⟨n, rfl, k⟩
theorem z_make {C : Addr} {sp : Sp} {E : XK} {t : TA} (h : t σ H fun vs H1 => ∀ x dx, H1 x = none → H1 dx = none → dx ≠ x → sp (.ref x :: (vs ++ [])) (upd (upd H1 dx (.own x)) x (.ins C dx [])) (fun v H2 => v = .non ∧ Q (.ref x) H2) E) : tMake C sp [] E t σ H Q := h
theorem z_methSl {C : Addr} {m : Str} {sp : Sp} {E : L2.St → XK} {ta : TE} {t : TA} (h : ta σ H fun x H1 => ∃ a dx fs, x = .ref a ∧ H1 a = some (.ins C dx fs) ∧ fs.lookup m = none ∧ t σ H1 fun vs H2 => sp (x :: vs) H2 Q (E σ)) : tMethSl C m sp E ta t σ H Q := h
end
/-! equal data -/
theorem z_eqSame {K : PySem.W.Frag} {H : Hp} {Q : VK} {x y : V} {d : PyData} (hx : Dv H x d) (hy : Dv H y d) (hs : SeqAt.shaped d = true) (he : PyData.eqv d d = true) (k : Q (.bl true) H) : rEqU K x y H Q := .inr ⟨d, d, hx.dp, hy.dp, hs, hs, by rw [he]; exact k⟩
theorem z_neSame {K : PySem.W.Frag} {H : Hp} {Q : VK} {x y : V} {d : PyData} (hx : Dv H x d) (hy : Dv H y d) (hs : SeqAt.shaped d = true) (he : PyData.eqv d d = true) (k : Q (.bl false) H) : rNeU K x y H Q := .inr ⟨d, d, hx.dp, hy.dp, hs, hs, by rw [he]; exact k⟩
theorem mulS {i j : Int} (h1 : i.natAbs < 2 ^ 64) (h2 : j.natAbs < 2 ^ 64) : CMulX i j := mulx_ok h1 h2 (by decide)
theorem sz1000 {n : Nat} (h : n ≤ 100000) : n ≤ sizeLine := Nat.le_trans h (by decide)
theorem szlt {n : Nat} (h : n < 100000) : n < sizeLine := Nat.lt_of_lt_of_le h (by decide)
/-! a def that is never reached, recursion by levels -/
theorem Fk.no {P : Program} {w : World} {K : PySem.W.Frag} {mg : Str → Option Value} {base : Heap} {ps : List Str} {x qual : Str} {params : Arguments} {body : List Stmt} {scope : Scope} {f : Addr} {sp : Sp} (F : ∃ fd, FunD K x qual params body scope [] [] f fd)
    (hb : ∀ (kV doc pm : Value) (an : Option Addr) (cdv ct : Value) (us : List Value), us.length = ps.length → bindArgs (PySem.W.fnOf x qual params body scope .none kV doc pm an cdv ct) ⟨us, []⟩ = pure (ps.zip us)) (hn : ∀ vs H Q E, ¬ sp vs H Q E) :
    Fk P w K mg base 0 f ps sp := by
  obtain ⟨fd, F⟩ := F
  exact ⟨⟨fd, ⟨fun vs H Q E h => absurd h (hn vs H Q E), fun _ _ _ _ _ _ _ _ _ _ _ _ _ h => absurd h (hn _ _ _ _)⟩, F.bindsN hb⟩, F.kp⟩
end Mur
/-! Pictures, plain mathematics. -/
namespace Mur
open PySem hiding start
open PySem.Spec L2
open PyProof.Rows hiding St
inductive Pic where
  | p (c : Int)
  | q (a b c d : Pic)
  deriving DecidableEq
namespace Pic
def depth : Pic → Nat
  | .p _ => 0
  | .q a b c d => 1 + max (max a.depth b.depth) (max c.depth d.depth)
def parts : Pic → List Pic
  | .p _ => []
  | .q a b c d => [a, b, c, d]
/-- four pictures as quarters -/
def mk (a b c d : Pic) : Pic := if a = b ∧ b = c ∧ c = d ∧ a.depth = 0 then a else .q a b c d
/-- how many cells of the colour k at its own depth -/
def cnt : Pic → Int → Int
  | .p c, k => if k = c then 1 else 0
  | .q a b c d, k =>
    let m := max (max a.depth b.depth) (max c.depth d.depth)
    cnt a k * 4 ^ (m - a.depth) + cnt b k * 4 ^ (m - b.depth) + cnt c k * 4 ^ (m - c.depth) + cnt d k * 4 ^ (m - d.depth)
def sums (P : Pic) : List Int := (List.range 10).map fun k : Nat => P.cnt ((k : Nat) : Int)
def ok : Pic → Prop
  | .p c => 0 ≤ c ∧ c ≤ 9
  | .q a b c d => (Pic.q a b c d).depth ≤ 12 ∧ ¬ (a = b ∧ b = c ∧ c = d ∧ a.depth = 0)
end Pic
/-- the number of a picture in the store -/
def ix (ps : List Pic) (P : Pic) : Nat := ps.idxOf P
def nodeOf (ps : List Pic) : Pic → List Int
  | .p c => [c]
  | .q a b c d => [(ix ps a : Nat), (ix ps b : Nat), (ix ps c : Nat), (ix ps d : Nat)]
def PartsIn (ps : List Pic) (P : Pic) : Prop := ∀ Q ∈ P.parts, Q ∈ ps
structure PInv (ps : List Pic) : Prop where
  nd : ps.Nodup
  cl : ∀ P ∈ ps, PartsIn ps P
  ok : ∀ P ∈ ps, P.ok
theorem ix_lt {ps : List Pic} {P : Pic} (h : P ∈ ps) : ix ps P < ps.length := List.idxOf_lt_length_of_mem h
theorem ix_get {ps : List Pic} {P : Pic} (h : P ∈ ps) : ps[ix ps P]? = some P := by
  rw [List.getElem?_eq_getElem (ix_lt h)]
  exact congrArg some (List.getElem_idxOf (ix_lt h))
theorem ix_inj {ps : List Pic} {P Q : Pic} (hp : P ∈ ps) (hq : Q ∈ ps) (e : ix ps P = ix ps Q) : P = Q := by
  have a := ix_get hp
  rw [e, ix_get hq] at a
  exact (Option.some.inj a).symm
theorem ix_app {ps qs : List Pic} {P : Pic} (h : P ∈ ps) : ix (ps ++ qs) P = ix ps P := by
  unfold ix; rw [List.idxOf_append, if_pos h]
theorem ix_new {ps : List Pic} {P : Pic} (h : P ∉ ps) : ix (ps ++ [P]) P = ps.length := by
  unfold ix; rw [List.idxOf_append, if_neg h]; simp
theorem ix_of {ps : List Pic} (nd : ps.Nodup) {i : Nat} {P : Pic} (h : ps[i]? = some P) : ix ps P = i := by
  have hm : P ∈ ps := List.mem_of_getElem? h
  have hi : i < ps.length := (List.getElem?_eq_some_iff.mp h).1
  have a := ix_get hm
  exact (List.getElem?_inj (ix_lt hm) nd).mp (a.trans h.symm)
theorem node_app {ps qs : List Pic} {P : Pic} (h : PartsIn ps P) : nodeOf (ps ++ qs) P = nodeOf ps P := by
  cases P with
  | p c => rfl
  | q a b c d => simp only [nodeOf]; rw [ix_app (h a (by simp [Pic.parts])), ix_app (h b (by simp [Pic.parts])), ix_app (h c (by simp [Pic.parts])), ix_app (h d (by simp [Pic.parts]))]
theorem node_inj {ps : List Pic} {P Q : Pic} (hp : PartsIn ps P) (hq : PartsIn ps Q) (e : nodeOf ps P = nodeOf ps Q) : P = Q := by
  cases P with
  | p c => cases Q with
    | p c' => simp [nodeOf] at e; rw [e]
    | q _ _ _ _ => simp [nodeOf] at e
  | q a b c d => cases Q with
    | p c' => simp [nodeOf] at e
    | q a' b' c' d' =>
      simp only [nodeOf, List.cons.injEq, and_true, Int.ofNat_inj] at e
      obtain ⟨e1, e2, e3, e4⟩ := e
      rw [ix_inj (hp a (by simp [Pic.parts])) (hq a' (by simp [Pic.parts])) e1, ix_inj (hp b (by simp [Pic.parts])) (hq b' (by simp [Pic.parts])) e2,
        ix_inj (hp c (by simp [Pic.parts])) (hq c' (by simp [Pic.parts])) e3, ix_inj (hp d (by simp [Pic.parts])) (hq d' (by simp [Pic.parts])) e4]
theorem PartsIn.app {ps qs : List Pic} {P : Pic} (h : PartsIn ps P) : PartsIn (ps ++ qs) P := fun Q hq => List.mem_append_left _ (h Q hq)
theorem PInv.add {ps : List Pic} {P : Pic} (h : PInv ps) (hn : P ∉ ps) (hp : PartsIn ps P) (ho : P.ok) : PInv (ps ++ [P]) where
  nd := by
    rw [List.nodup_append]
    refine ⟨h.nd, by simp, ?_⟩
    intro a ha b hb
    simp at hb
    subst hb
    rintro rfl
    exact hn ha
  cl := fun Q hq => by
    rcases List.mem_append.mp hq with q | q
    · exact (h.cl Q q).app
    · simp at q; subst q; exact hp.app
  ok := fun Q hq => by
    rcases List.mem_append.mp hq with q | q
    · exact h.ok Q q
    · simp at q; subst q; exact ho
theorem mk_parts {ps : List Pic} {a b c d : Pic} (h : PInv ps) (ha : a ∈ ps) (hb : b ∈ ps) (hc : c ∈ ps) (hd : d ∈ ps) : PartsIn ps (Pic.mk a b c d) := by
  unfold Pic.mk
  split
  · exact h.cl a ha
  · intro Q hq
    simp [Pic.parts] at hq
    rcases hq with rfl | rfl | rfl | rfl <;> assumption
theorem depth_zero {P : Pic} (h : P.depth = 0) : ∃ c, P = .p c := by
  cases P with
  | p c => exact ⟨c, rfl⟩
  | q a b c d => simp [Pic.depth] at h
/-! ### the table of what is known -/
abbrev key (l : List Int) : List Key := l.map Sum.inl
theorem key_inj {l m : List Int} (h : key l = key m) : l = m := by
  induction l generalizing m with
  | nil => cases m with
    | nil => rfl
    | cons _ _ => simp [key] at h
  | cons x l ih => cases m with
    | nil => simp [key] at h
    | cons y m =>
      simp only [key, List.map_cons, List.cons.injEq, Sum.inl.injEq] at h
      rw [h.1, ih h.2]
structure KnOk (ps : List Pic) (kvs : List (List Key × V)) : Prop where
  len : kvs.length = ps.length
  val : ∀ P, PartsIn ps P → valV kvs (key (nodeOf ps P)) = if P ∈ ps then some (.int (ix ps P : Nat)) else none
  mem : ∀ k v, valV kvs k = some v → ∃ P ∈ ps, PartsIn ps P ∧ k = key (nodeOf ps P)
theorem node_lt {ps : List Pic} {P : Pic} (h : PartsIn ps P) : ∀ a b c d, P = .q a b c d → ∀ z ∈ nodeOf ps P, z < ps.length := by
  rintro a b c d rfl z hz
  simp [nodeOf] at hz
  have e1 := ix_lt (h a (by simp [Pic.parts]))
  have e2 := ix_lt (h b (by simp [Pic.parts]))
  have e3 := ix_lt (h c (by simp [Pic.parts]))
  have e4 := ix_lt (h d (by simp [Pic.parts]))
  rcases hz with rfl | rfl | rfl | rfl <;> omega
theorem node_has {ps : List Pic} {N P : Pic} (hN : N ∉ ps) (hP : PartsIn (ps ++ [N]) P) (hn : ¬ PartsIn ps P) : ∃ a b c d, P = .q a b c d ∧ (ps.length : Int) ∈ nodeOf (ps ++ [N]) P := by
  cases P with
  | p c => exact absurd (fun Q hq => by simp [Pic.parts] at hq) hn
  | q a b c d =>
    refine ⟨a, b, c, d, rfl, ?_⟩
    have one : ∀ Q ∈ (Pic.q a b c d).parts, Q ∉ ps → ix (ps ++ [N]) Q = ps.length := by
      intro Q hQ hq
      rcases List.mem_append.mp (hP Q hQ) with z | z
      · exact absurd z hq
      · simp at z; subst z; exact ix_new hN
    by_cases h1 : a ∈ ps
    · by_cases h2 : b ∈ ps
      · by_cases h3 : c ∈ ps
        · by_cases h4 : d ∈ ps
          · exact absurd (fun Q hq => by
              simp [Pic.parts] at hq
              rcases hq with rfl | rfl | rfl | rfl <;> assumption) hn
          · simp [nodeOf, one d (by simp [Pic.parts]) h4]
        · simp [nodeOf, one c (by simp [Pic.parts]) h3]
      · simp [nodeOf, one b (by simp [Pic.parts]) h2]
    · simp [nodeOf, one a (by simp [Pic.parts]) h1]
theorem KnOk.add {ps : List Pic} {kvs : List (List Key × V)} {N : Pic} (h : KnOk ps kvs) (I : PInv ps) (hN : N ∉ ps) (hp : PartsIn ps N) : KnOk (ps ++ [N]) (kvs ++ [(key (nodeOf ps N), .int (ps.length : Nat))]) := by
  have hnone : valV kvs (key (nodeOf ps N)) = none := by rw [h.val N hp, if_neg hN]
  refine ⟨by simp [h.len], fun P hP => ?_, fun k v e => ?_⟩
  · rw [valV_snoc _ _ _ _ hnone]
    by_cases hin : PartsIn ps P
    · rw [node_app hin]
      by_cases e : key (nodeOf ps P) = key (nodeOf ps N)
      · have : P = N := node_inj hin hp (key_inj e)
        subst this
        rw [if_pos rfl, if_pos (by simp), ix_new hN]
      · rw [if_neg e, h.val P hin]
        by_cases hm : P ∈ ps
        · rw [if_pos hm, if_pos (by simp [hm]), ix_app hm]
        · have hne : P ≠ N := fun z => e (by rw [z])
          rw [if_neg hm, if_neg (by simp [hm, hne])]
    · obtain ⟨a, b, c, d, e, hl⟩ := node_has hN hP hin
      have hPn : P ∉ ps ++ [N] := by
        intro z
        rcases List.mem_append.mp z with z | z
        · exact hin (I.cl P z)
        · simp at z; subst z; exact hin hp
      rw [if_neg hPn]
      have key_ne : key (nodeOf (ps ++ [N]) P) ≠ key (nodeOf ps N) := by
        intro z
        have z := key_inj z
        rw [z] at hl
        cases N with
        | p c' => subst e; have := congrArg List.length z; simp [nodeOf] at this
        | q a' b' c' d' =>
          have := node_lt hp a' b' c' d' rfl _ hl
          omega
      rw [if_neg key_ne]
      cases q : valV kvs (key (nodeOf (ps ++ [N]) P)) with
      | none => rfl
      | some v =>
        exfalso
        obtain ⟨R, hR, hRp, z⟩ := h.mem _ _ q
        have z := key_inj z
        rw [z] at hl
        cases R with
        | p c' => subst e; have := congrArg List.length z; simp [nodeOf] at this
        | q a' b' c' d' =>
          have := node_lt hRp a' b' c' d' rfl _ hl
          omega
  · rw [valV_snoc _ _ _ _ hnone] at e
    split at e
    · rename_i hk
      exact ⟨N, by simp, hp.app, by rw [node_app hp, hk]⟩
    · obtain ⟨P, h1, h2, h3⟩ := h.mem _ _ e
      exact ⟨P, by simp [h1], h2.app, by rw [node_app h2, h3]⟩
/-! ### counts -/
theorem pow4 (n : Nat) : (0 : Int) < 4 ^ n := Int.pow_pos (by decide)
theorem pow4_add (a b : Nat) : (4 : Int) ^ (a + b) = 4 ^ a * 4 ^ b := Int.pow_add ..
theorem cnt_bd : ∀ (P : Pic) (k : Int), 0 ≤ P.cnt k ∧ P.cnt k ≤ 4 ^ P.depth
  | .p c, k => by simp only [Pic.cnt, Pic.depth]; split <;> simp
  | .q a b c d, k => by
    have ha := cnt_bd a k
    have hb := cnt_bd b k
    have hc := cnt_bd c k
    have hd := cnt_bd d k
    simp only [Pic.cnt, Pic.depth]
    have one : ∀ (m e : Nat) (x : Int), e ≤ m → 0 ≤ x ∧ x ≤ 4 ^ e → 0 ≤ x * 4 ^ (m - e) ∧ x * 4 ^ (m - e) ≤ 4 ^ m := by
      intro m e x h ⟨h0, h1⟩
      refine ⟨Int.mul_nonneg h0 (Int.le_of_lt (pow4 _)), ?_⟩
      have q := Int.mul_le_mul_of_nonneg_right h1 (Int.le_of_lt (pow4 (m - e)))
      rw [← pow4_add, Nat.add_sub_cancel' h] at q
      exact q
    have la := one (max (max a.depth b.depth) (max c.depth d.depth)) a.depth _ (by omega) ha
    have lb := one (max (max a.depth b.depth) (max c.depth d.depth)) b.depth _ (by omega) hb
    have lc := one (max (max a.depth b.depth) (max c.depth d.depth)) c.depth _ (by omega) hc
    have ld := one (max (max a.depth b.depth) (max c.depth d.depth)) d.depth _ (by omega) hd
    have e : (4 : Int) ^ (1 + max (max a.depth b.depth) (max c.depth d.depth)) = 4 * 4 ^ (max (max a.depth b.depth) (max c.depth d.depth)) := by rw [pow4_add]; rfl
    rw [e]
    constructor <;> omega
theorem ok_depth {P : Pic} (h : P.ok) : P.depth ≤ 12 := by
  cases P with
  | p c => simp [Pic.depth]
  | q a b c d => exact h.1
/-! ### turned pictures -/
abbrev P4 := Pic × Pic × Pic × Pic
def rot4 {α : Type} (x : α × α × α × α) : α × α × α × α := (x.2.2.1, x.1, x.2.2.2, x.2.1)
def rots4 {α : Type} : Nat → α × α × α × α → α × α × α × α
  | 0, x => x
  | k + 1, x => rot4 (rots4 k x)
def arr {α : Type} (t : Int) (x : α × α × α × α) : α × α × α × α := rots4 (t % 4).toNat (if 3 < t then (x.2.1, x.1, x.2.2.2, x.2.2.1) else x)
def Pic.turn (t : Int) : Pic → Pic
  | .p c => .p c
  | .q a b c d =>
    let x := arr t (a.turn t, b.turn t, c.turn t, d.turn t)
    .q x.1 x.2.1 x.2.2.1 x.2.2.2
/-- the number f is that of P -/
def IsF (ps : List Pic) (f : Int) (P : Pic) : Prop := 0 ≤ f ∧ ps[f.toNat]? = some P
theorem IsF.mem {ps : List Pic} {f : Int} {P : Pic} (h : IsF ps f P) : P ∈ ps := List.mem_of_getElem? h.2
theorem IsF.lt {ps : List Pic} {f : Int} {P : Pic} (h : IsF ps f P) : f < ps.length := by
  have := (List.getElem?_eq_some_iff.mp h.2).1
  have := h.1
  omega
theorem IsF.inj {ps : List Pic} {f : Int} {P Q : Pic} (h : IsF ps f P) (h' : IsF ps f Q) : P = Q := Option.some.inj (h.2.symm.trans h'.2)
theorem IsF.ix {ps : List Pic} {P : Pic} (h : P ∈ ps) : IsF ps (ix ps P : Nat) P := ⟨by omega, by simpa using ix_get h⟩
theorem IsF.eq {ps : List Pic} {f : Int} {P : Pic} (nd : ps.Nodup) (h : IsF ps f P) : f = (Mur.ix ps P : Nat) := by
  have := ix_of nd h.2
  have := h.1
  omega
theorem IsF.ex {ps : List Pic} {f : Int} (h0 : 0 ≤ f) (h1 : f < ps.length) : ∃ P, IsF ps f P := ⟨ps[f.toNat]'(by omega), h0, List.getElem?_eq_getElem (by omega)⟩
theorem IsF.app {ps qs : List Pic} {f : Int} {P : Pic} (h : IsF ps f P) : IsF (ps ++ qs) f P := by
  have := (List.getElem?_eq_some_iff.mp h.2).1
  exact ⟨h.1, by rw [List.getElem?_append_left this]; exact h.2⟩
/-- ps with P, at the end if it is new -/
def addP (ps : List Pic) (P : Pic) : List Pic := if P ∈ ps then ps else ps ++ [P]
theorem addP_mem (ps : List Pic) (P : Pic) : P ∈ addP ps P := by unfold addP; split <;> simp [*]
theorem addP_ext (ps : List Pic) (P : Pic) : ∃ qs, addP ps P = ps ++ qs := by
  unfold addP; split
  · exact ⟨[], by simp⟩
  · exact ⟨[P], rfl⟩
theorem addP_sub {ps : List Pic} {P Q : Pic} (h : Q ∈ addP ps P) : Q ∈ ps ∨ Q = P := by
  unfold addP at h; split at h
  · exact .inl h
  · simpa using h
theorem addP_len (ps : List Pic) (P : Pic) : (addP ps P).length ≤ ps.length + 1 := by unfold addP; split <;> simp
theorem IsF.add {ps : List Pic} {f : Int} {P Q : Pic} (h : IsF ps f P) : IsF (addP ps Q) f P := by
  obtain ⟨qs, e⟩ := addP_ext ps Q
  rw [e]; exact h.app
theorem nodup_sub {α : Type} [DecidableEq α] : ∀ {l m : List α}, l.Nodup → (∀ x ∈ l, x ∈ m) → l.length ≤ m.length
  | [], _, _, _ => by simp
  | x :: l, m, h, s => by
    have hx := s x (by simp)
    have h1 := nodup_sub (l := l) (m := m.erase x) (List.nodup_cons.mp h).2 fun y hy => by
      have hne : y ≠ x := fun z => (List.nodup_cons.mp h).1 (z ▸ hy)
      exact (List.mem_erase_of_ne hne).mpr (s y (by simp [hy]))
    have h2 := List.length_erase_of_mem hx
    have : 0 < m.length := List.length_pos_of_mem hx
    simp only [List.length_cons]
    omega
structure WhOk (ps : List Pic) (wh : List (List Key × V)) : Prop where
  val : ∀ (f t : Int) (v : V), valV wh [.inl f, .inl t] = some v → ∃ P, IsF ps f P ∧ P.turn t ∈ ps ∧ v = .int (ix ps (P.turn t) : Nat)
  nd : (wh.map (·.1)).Nodup
  keys : ∀ k ∈ wh.map (·.1), ∃ i t : Nat, i < ps.length ∧ t < 8 ∧ k = [.inl (i : Int), .inl (t : Int)]
theorem WhOk.app {ps qs : List Pic} {wh : List (List Key × V)} (h : WhOk ps wh) : WhOk (ps ++ qs) wh :=
  ⟨fun f t v e => by
    obtain ⟨P, h1, h2, h3⟩ := h.val f t v e
    exact ⟨P, h1.app, List.mem_append_left _ h2, by rw [ix_app h2]; exact h3⟩, h.nd, fun k hk => by
    obtain ⟨i, t, h1, h2, h3⟩ := h.keys k hk
    exact ⟨i, t, by simp; omega, h2, h3⟩⟩
theorem WhOk.add {ps : List Pic} {wh : List (List Key × V)} (Q : Pic) (h : WhOk ps wh) : WhOk (addP ps Q) wh := by
  obtain ⟨qs, e⟩ := addP_ext ps Q
  rw [e]; exact h.app
theorem WhOk.nil : WhOk [] [] := ⟨fun f t v e => by simp [valV] at e, by simp, by simp⟩
theorem WhOk.len {ps : List Pic} {wh : List (List Key × V)} (h : WhOk ps wh) : wh.length ≤ 8 * ps.length := by
  have e := nodup_sub (m := (List.range ps.length).flatMap fun i : Nat => (List.range 8).map fun t : Nat => ([.inl ((i : Nat) : Int), .inl ((t : Nat) : Int)] : List Key)) h.nd fun k hk => by
    obtain ⟨i, t, h1, h2, h3⟩ := h.keys k hk
    subst h3
    simp only [List.mem_flatMap, List.mem_range, List.mem_map]
    exact ⟨i, h1, t, h2, rfl⟩
  have e2 : ∀ l : List Nat, (l.flatMap fun i : Nat => (List.range 8).map fun t : Nat => ([.inl ((i : Nat) : Int), .inl ((t : Nat) : Int)] : List Key)).length = 8 * l.length := by
    intro l
    induction l with
    | nil => rfl
    | cons x l ih =>
      rw [List.flatMap_cons, List.length_append, ih, List.length_map, List.length_range, List.length_cons]
      omega
  have e3 := e2 (List.range ps.length)
  rw [List.length_range] at e3
  rw [List.length_map] at e
  omega
theorem KnOk.nil : KnOk [] [] := ⟨rfl, fun P _ => by simp [valV], fun k v e => by simp [valV] at e⟩
theorem PInv.nil : PInv [] := ⟨by simp, by simp, by simp⟩
end Mur
/-! The store of faces in the heap. -/
namespace Mur
open PySem hiding start
open PySem.Spec L2
open PyProof.Rows hiding St
abbrev fsFaces (v0 v1 v2 v3 v4 : V) : List (Str × V) := [("nodes", v0), ("depths", v1), ("sums", v2), ("known", v3), ("whirls", v4)]
section
variable {v0 v1 v2 v3 v4 x : V}
theorem lkFaces_nodes : (fsFaces v0 v1 v2 v3 v4).lookup ("nodes" : Str) = some v0 := by rfl
theorem ptFaces_nodes : putF ("nodes" : Str) x (fsFaces v0 v1 v2 v3 v4) = fsFaces x v1 v2 v3 v4 := by rfl
theorem lkFaces_depths : (fsFaces v0 v1 v2 v3 v4).lookup ("depths" : Str) = some v1 := by rfl
theorem ptFaces_depths : putF ("depths" : Str) x (fsFaces v0 v1 v2 v3 v4) = fsFaces v0 x v2 v3 v4 := by rfl
theorem lkFaces_sums : (fsFaces v0 v1 v2 v3 v4).lookup ("sums" : Str) = some v2 := by rfl
theorem ptFaces_sums : putF ("sums" : Str) x (fsFaces v0 v1 v2 v3 v4) = fsFaces v0 v1 x v3 v4 := by rfl
theorem lkFaces_known : (fsFaces v0 v1 v2 v3 v4).lookup ("known" : Str) = some v3 := by rfl
theorem ptFaces_known : putF ("known" : Str) x (fsFaces v0 v1 v2 v3 v4) = fsFaces v0 v1 v2 x v4 := by rfl
theorem lkFaces_whirls : (fsFaces v0 v1 v2 v3 v4).lookup ("whirls" : Str) = some v4 := by rfl
theorem ptFaces_whirls : putF ("whirls" : Str) x (fsFaces v0 v1 v2 v3 v4) = fsFaces v0 v1 v2 v3 x := by rfl
theorem noFaces_stored : (fsFaces v0 v1 v2 v3 v4).lookup ("stored" : Str) = none := by rfl
theorem noFaces_need : (fsFaces v0 v1 v2 v3 v4).lookup ("need" : Str) = none := by rfl
theorem noFaces_plain : (fsFaces v0 v1 v2 v3 v4).lookup ("plain" : Str) = none := by rfl
theorem noFaces_four : (fsFaces v0 v1 v2 v3 v4).lookup ("four" : Str) = none := by rfl
theorem noFaces_depth : (fsFaces v0 v1 v2 v3 v4).lookup ("depth" : Str) = none := by rfl
theorem noFaces_quarters : (fsFaces v0 v1 v2 v3 v4).lookup ("quarters" : Str) = none := by rfl
theorem noFaces_colour : (fsFaces v0 v1 v2 v3 v4).lookup ("colour" : Str) = none := by rfl
theorem noFaces_need_depth : (fsFaces v0 v1 v2 v3 v4).lookup ("need_depth" : Str) = none := by rfl
theorem noFaces_cell : (fsFaces v0 v1 v2 v3 v4).lookup ("cell" : Str) = none := by rfl
theorem noFaces_counts : (fsFaces v0 v1 v2 v3 v4).lookup ("counts" : Str) = none := by rfl
theorem noFaces_turned : (fsFaces v0 v1 v2 v3 v4).lookup ("turned" : Str) = none := by rfl
theorem noFaces_whirled : (fsFaces v0 v1 v2 v3 v4).lookup ("whirled" : Str) = none := by rfl
theorem noFaces_kind : (fsFaces v0 v1 v2 v3 v4).lookup ("kind" : Str) = none := by rfl
theorem noFaces_turning : (fsFaces v0 v1 v2 v3 v4).lookup ("turning" : Str) = none := by rfl
theorem noFaces_apart : (fsFaces v0 v1 v2 v3 v4).lookup ("apart" : Str) = none := by rfl
end
/-- a field of a new object is stored: the heap behind it -/
theorem init_step {H : Hp} {p C dx n : Addr} {fs fs' : List (Str × V)} {o : HO} (hp : H p = some (.ins C dx fs)) (hn : H n = none) :
    (upd (upd H n o) p (.ins C dx fs')) p = some (.ins C dx fs') ∧ (upd (upd H n o) p (.ins C dx fs')) n = some o ∧ (∀ b u, H b = some u → b ≠ p → (upd (upd H n o) p (.ins C dx fs')) b = some u) ∧ n ≠ p := by
  have np : n ≠ p := (ne_of_none hp hn).symm
  exact ⟨upd_same, by rw [upd_ne np, upd_same], fun b u e hb => by rw [upd_ne hb, upd_ne (ne_of_none e hn)]; exact e, np⟩
/-- the store's own lists and dicts -/
structure FA where
  n : Addr
  d : Addr
  s : Addr
  k : Addr
  w : Addr
def FA.foot (A : FA) (b : Addr) : Prop := b = A.n ∨ b = A.d ∨ b = A.s ∨ b = A.k ∨ b = A.w
theorem upd_ex {H : Hp} {a b : Addr} {o : HO} (h : ∃ u, H b = some u) : ∃ u, upd H a o b = some u := by
  by_cases e : b = a
  · subst e; exact ⟨o, upd_same⟩
  · rw [upd_ne e]; exact h
/-- what is not at F stays -/
def Keep (F : Addr → Prop) (H H' : Hp) : Prop := ∀ b o, H b = some o → ¬ F b → H' b = some o
theorem Keep.refl (F : Addr → Prop) (H : Hp) : Keep F H H := fun _ _ h _ => h
theorem Keep.trans {F : Addr → Prop} {H H1 H2 : Hp} (a : Keep F H H1) (b : Keep F H1 H2) : Keep F H H2 := fun c o h n => b c o (a c o h n) n
theorem _root_.L2.Same.keep {F : Addr → Prop} {H H' : Hp} (s : Same H H') : Keep F H H' := fun b o h _ => s b o h
theorem Keep.mono {F G : Addr → Prop} {H H' : Hp} (h : Keep F H H') (i : ∀ b, F b → G b) : Keep G H H' := fun b o e n => h b o e fun z => n (i b z)
theorem Keep.set {F : Addr → Prop} {H H' : Hp} {a : Addr} {o : HO} (h : Keep F H H') (f : F a) : Keep F H (upd H' a o) := fun b u e n => by
  rw [upd_ne (fun z => n (by rw [z]; exact f))]; exact h b u e n
/-- a store stands at p; D: all addresses that it leans on -/
structure FacesAt (C : Addr) (H : Hp) (p : Addr) (A : FA) (D : Addr → Prop) (ps : List Pic) : Prop where
  ob : ∃ dx, H p = some (.ins C dx (fsFaces (.ref A.n) (.ref A.d) (.ref A.s) (.ref A.k) (.ref A.w)))
  nodes : ∃ ns : List Addr, H A.n = some (.lst (ns.map V.ref)) ∧ ns.length = ps.length ∧ ∀ (i : Nat) (a : Addr) (P : Pic), ns[i]? = some a → ps[i]? = some P → D a ∧ H a = some (.tup ((nodeOf ps P).map V.int))
  depths : H A.d = some (.lst (ps.map fun P => V.int (P.depth : Nat)))
  sums : ∃ ss : List Addr, H A.s = some (.lst (ss.map V.ref)) ∧ ss.length = ps.length ∧ ∀ (i : Nat) (a : Addr) (P : Pic), ss[i]? = some a → ps[i]? = some P → D a ∧ ¬ A.foot a ∧ H a = some (.lst (P.sums.map V.int))
  known : ∃ kvs, H A.k = some (.dT kvs) ∧ KnOk ps kvs
  whirl : ∃ wh, H A.w = some (.dT wh) ∧ WhOk ps wh
  inv : PInv ps
  dp : D p
  df : ∀ b, A.foot b → D b
  ex : ∀ b, D b → ∃ o, H b = some o
  ap : A.n ≠ A.d ∧ A.n ≠ A.s ∧ A.d ≠ A.s ∧ A.k ≠ A.w
section
variable {C : Addr} {H H' : Hp} {p : Addr} {A : FA} {D : Addr → Prop} {ps : List Pic}
theorem FacesAt.keep (h : FacesAt C H p A D ps) (k : ∀ b o, D b → H b = some o → H' b = some o) : FacesAt C H' p A D ps := by
  obtain ⟨⟨dx, ob⟩, ⟨ns, n1, n2, n3⟩, dd, ⟨ss, s1, s2, s3⟩, ⟨kvs, k1, k2⟩, ⟨wh, w1, w2⟩, inv, dp, df, ex, ap⟩ := h
  exact ⟨⟨dx, k _ _ dp ob⟩, ⟨ns, k _ _ (df _ (.inl rfl)) n1, n2, fun i a P e1 e2 => ⟨(n3 i a P e1 e2).1, k _ _ (n3 i a P e1 e2).1 (n3 i a P e1 e2).2⟩⟩, k _ _ (df _ (.inr (.inl rfl))) dd,
    ⟨ss, k _ _ (df _ (.inr (.inr (.inl rfl)))) s1, s2, fun i a P e1 e2 => ⟨(s3 i a P e1 e2).1, (s3 i a P e1 e2).2.1, k _ _ (s3 i a P e1 e2).1 (s3 i a P e1 e2).2.2⟩⟩,
    ⟨kvs, k _ _ (df _ (.inr (.inr (.inr (.inl rfl))))) k1, k2⟩, ⟨wh, k _ _ (df _ (.inr (.inr (.inr (.inr rfl))))) w1, w2⟩, inv, dp, df, fun b hb => let ⟨o, e⟩ := ex b hb; ⟨o, k b o hb e⟩, ap⟩
theorem FacesAt.same (h : FacesAt C H p A D ps) (s : Same H H') : FacesAt C H' p A D ps := h.keep fun b o _ e => s b o e
theorem FacesAt.len (h : FacesAt C H p A D ps) : ∃ ns : List Addr, H A.n = some (.lst (ns.map V.ref)) ∧ ns.length = ps.length := let ⟨ns, a, b, _⟩ := h.nodes; ⟨ns, a, b⟩
theorem foot_tup (h : FacesAt C H p A D ps) {t : Addr} {xs : List V} (ht : H t = some (.tup xs)) : ¬ A.foot t := by
  obtain ⟨ns, hn, _⟩ := h.nodes
  obtain ⟨ss, hs, _⟩ := h.sums
  obtain ⟨kvs, hk, _⟩ := h.known
  obtain ⟨wh, hw, _⟩ := h.whirl
  rintro (rfl | rfl | rfl | rfl | rfl)
  · rw [ht] at hn; cases hn
  · have := h.depths; rw [ht] at this; cases this
  · rw [ht] at hs; cases hs
  · rw [ht] at hk; cases hk
  · rw [ht] at hw; cases hw
theorem foot_p (h : FacesAt C H p A D ps) : ¬ A.foot p := by
  obtain ⟨dx, ob⟩ := h.ob
  obtain ⟨ns, hn, _⟩ := h.nodes
  obtain ⟨ss, hs, _⟩ := h.sums
  obtain ⟨kvs, hk, _⟩ := h.known
  obtain ⟨wh, hw, _⟩ := h.whirl
  rintro (e | e | e | e | e)
  · rw [e, hn] at ob; cases ob
  · rw [e, h.depths] at ob; cases ob
  · rw [e, hs] at ob; cases ob
  · rw [e, hk] at ob; cases ob
  · rw [e, hw] at ob; cases ob
/-- a new picture has been laid down -/
theorem FacesAt.stored (h : FacesAt C H p A D ps) {P : Pic} {t sm : Addr} {ns ss : List Addr} {kvs : List (List Key × V)} (hn : H A.n = some (.lst (ns.map V.ref))) (hs : H A.s = some (.lst (ss.map V.ref))) (hk : H A.k = some (.dT kvs))
    (ht : H t = some (.tup ((nodeOf ps P).map V.int))) (hsm : H sm = some (.lst (P.sums.map V.int))) (nf : ¬ A.foot sm) (pin : PartsIn ps P) (ok : P.ok) (hP : P ∉ ps) :
    Keep A.foot H (upd (upd (upd (upd H A.k (.dT (putK kvs (key (nodeOf ps P)) (.int (ps.length : Nat))))) A.n (.lst (ns.map V.ref ++ [.ref t]))) A.d (.lst (ps.map (fun P => V.int (P.depth : Nat)) ++ [.int (P.depth : Nat)]))) A.s (.lst (ss.map V.ref ++ [.ref sm]))) ∧
    FacesAt C (upd (upd (upd (upd H A.k (.dT (putK kvs (key (nodeOf ps P)) (.int (ps.length : Nat))))) A.n (.lst (ns.map V.ref ++ [.ref t]))) A.d (.lst (ps.map (fun P => V.int (P.depth : Nat)) ++ [.int (P.depth : Nat)]))) A.s (.lst (ss.map V.ref ++ [.ref sm]))) p A (fun b => D b ∨ b = t ∨ b = sm) (ps ++ [P]) := by
  have tf := foot_tup h ht
  have pf := foot_p h
  obtain ⟨⟨dx, ob⟩, ⟨ns', n1, n2, n3⟩, dd, ⟨ss', s1, s2, s3⟩, ⟨kvs', k1, k2⟩, ⟨wh, w1, w2⟩, inv, dp, df, ex, ap1, ap2, ap3, ap4⟩ := h
  have ens : ns'.map V.ref = ns.map V.ref := by rw [hn] at n1; injection n1 with n1; injection n1 with n1; exact n1.symm
  have ess : ss'.map V.ref = ss.map V.ref := by rw [hs] at s1; injection s1 with s1; injection s1 with s1; exact s1.symm
  have ekv : kvs' = kvs := by rw [hk] at k1; injection k1 with k1; injection k1 with k1; exact k1.symm
  subst ekv
  have K : Keep A.foot H (upd (upd (upd (upd H A.k (.dT (putK kvs' (key (nodeOf ps P)) (.int (ps.length : Nat))))) A.n (.lst (ns.map V.ref ++ [.ref t]))) A.d (.lst (ps.map (fun P => V.int (P.depth : Nat)) ++ [.int (P.depth : Nat)]))) A.s (.lst (ss.map V.ref ++ [.ref sm]))) :=
    (((Keep.refl A.foot H).set (.inr (.inr (.inr (.inl rfl))))).set (.inl rfl)).set (.inr (.inl rfl)) |>.set (.inr (.inr (.inl rfl)))
  have nk : A.n ≠ A.k := ne_of hn hk (by intro z; cases z)
  have dk : A.d ≠ A.k := ne_of dd hk (by intro z; cases z)
  have sk : A.s ≠ A.k := ne_of hs hk (by intro z; cases z)
  have nw : A.n ≠ A.w := ne_of hn w1 (by intro z; cases z)
  have dw : A.d ≠ A.w := ne_of dd w1 (by intro z; cases z)
  have sw : A.s ≠ A.w := ne_of hs w1 (by intro z; cases z)
  have e0 := k2.val P pin
  rw [if_neg hP] at e0
  refine ⟨K, ⟨dx, K _ _ ob pf⟩, ⟨ns ++ [t], by rw [upd_ne ap2, upd_ne ap1, upd_same, List.map_append]; rfl, ?_, ?_⟩, ?_, ⟨ss ++ [sm], by rw [upd_same, List.map_append]; rfl, ?_, ?_⟩, ⟨putK kvs' (key (nodeOf ps P)) (.int (ps.length : Nat)), ?_, ?_⟩, ⟨wh, ?_, w2.app⟩, inv.add hP pin ok, .inl dp, fun b hb => .inl (df b hb), ?_, ap1, ap2, ap3, ap4⟩
  · have : ns.length = ns'.length := by have := congrArg List.length ens; simpa using this.symm
    simp [this, n2]
  · intro i a Q e1 e2
    have ln : ns.length = ps.length := by have := congrArg List.length ens; simp at this; omega
    by_cases hi : i < ns.length
    · rw [List.getElem?_append_left hi] at e1
      rw [List.getElem?_append_left (by omega)] at e2
      have e1' : ns'[i]? = some a := by
        have q : (ns'.map V.ref)[i]? = (ns.map V.ref)[i]? := by rw [ens]
        rw [List.getElem?_map, List.getElem?_map, e1] at q
        cases r : ns'[i]? with
        | none => rw [r] at q; cases q
        | some b => rw [r] at q; injection q with q; injection q with q; rw [q]
      obtain ⟨da, ha⟩ := n3 i a Q e1' e2
      have hQ : Q ∈ ps := List.mem_of_getElem? e2
      exact ⟨.inl da, by rw [node_app (inv.cl Q hQ)]; exact K _ _ ha (fun z => by
        rcases z with rfl | rfl | rfl | rfl | rfl
        · rw [hn] at ha; cases ha
        · rw [dd] at ha; cases ha
        · rw [hs] at ha; cases ha
        · rw [hk] at ha; cases ha
        · rw [w1] at ha; cases ha)⟩
    · have hi2 : i = ns.length := by
        have := (List.getElem?_eq_some_iff.mp e1).1
        simp at this; omega
      subst hi2
      rw [List.getElem?_append_right (Nat.le_refl _)] at e1
      rw [ln, List.getElem?_append_right (Nat.le_refl _)] at e2
      simp at e1 e2
      subst e1 e2
      exact ⟨.inr (.inl rfl), by rw [node_app pin]; exact K _ _ ht tf⟩
  · rw [upd_ne ap3, upd_same, List.map_append]
    rfl
  · have : ss.length = ss'.length := by have := congrArg List.length ess; simpa using this.symm
    simp [this, s2]
  · intro i a Q e1 e2
    have ln : ss.length = ps.length := by have := congrArg List.length ess; simp at this; omega
    by_cases hi : i < ss.length
    · rw [List.getElem?_append_left hi] at e1
      rw [List.getElem?_append_left (by omega)] at e2
      have e1' : ss'[i]? = some a := by
        have q : (ss'.map V.ref)[i]? = (ss.map V.ref)[i]? := by rw [ess]
        rw [List.getElem?_map, List.getElem?_map, e1] at q
        cases r : ss'[i]? with
        | none => rw [r] at q; cases q
        | some b => rw [r] at q; injection q with q; injection q with q; rw [q]
      obtain ⟨da, fa, ha⟩ := s3 i a Q e1' e2
      exact ⟨.inl da, fa, K _ _ ha fa⟩
    · have hi2 : i = ss.length := by
        have := (List.getElem?_eq_some_iff.mp e1).1
        simp at this; omega
      subst hi2
      rw [List.getElem?_append_right (Nat.le_refl _)] at e1
      rw [ln, List.getElem?_append_right (Nat.le_refl _)] at e2
      simp at e1 e2
      subst e1 e2
      exact ⟨.inr (.inr rfl), nf, K _ _ hsm nf⟩
  · rw [upd_ne sk.symm, upd_ne dk.symm, upd_ne nk.symm, upd_same]
  · rw [putK_new _ e0]
    exact k2.add inv hP pin
  · rw [upd_ne sw.symm, upd_ne dw.symm, upd_ne nw.symm, upd_ne ap4.symm]
    exact w1
  · rintro b (hb | rfl | rfl)
    · obtain ⟨o, e⟩ := ex b hb
      exact upd_ex (upd_ex (upd_ex (upd_ex ⟨o, e⟩)))
    · exact ⟨_, K _ _ ht tf⟩
    · exact ⟨_, K _ _ hsm nf⟩
theorem FacesAt.nd (h : FacesAt C H p A D ps) {b : Addr} (e : H b = none) : ¬ D b := fun z => by
  obtain ⟨o, q⟩ := h.ex b z
  rw [e] at q; cases q
theorem FacesAt.ofFoot (h : FacesAt C H p A D ps) {b : Addr} (e : ¬ D b) : ¬ A.foot b := fun z => e (h.df b z)
theorem FacesAt.depthAt {f : Int} {P : Pic} (h : IsF ps f P) : atI (ps.map fun P => V.int (P.depth : Nat)) f = some (.int (P.depth : Nat)) := by
  refine atI_of (n := f.toNat) ?_ (by have := h.1; omega)
  rw [List.getElem?_map, h.2]
  rfl
/-- what a method of the store leaves -/
def After (C : Addr) (H : Hp) (p : Addr) (A : FA) (D : Addr → Prop) (qs : List Pic) (R : Hp → Prop) : Prop := ∀ H' D', Keep A.foot H H' → FacesAt C H' p A D' qs → (∀ b, D b → D' b) → (∀ b, D' b → D b ∨ H b = none) → R H'
end
end Mur
/-! Turned pictures and their cells, plain mathematics. -/
namespace Mur
open PySem hiding start
open PySem.Spec L2
open PyProof.Rows hiding St
theorem eight {t : Int} (h0 : 0 ≤ t) (h8 : t < 8) : t = 0 ∨ t = 1 ∨ t = 2 ∨ t = 3 ∨ t = 4 ∨ t = 5 ∨ t = 6 ∨ t = 7 := by omega
def afterI (a b : Int) : Int := (if 3 < b then b % 4 - a % 4 else a % 4 + b % 4) % 4 + 4 * ((a / 4 + b / 4) % 2)
def map4 {α β : Type} (f : α → β) (x : α × α × α × α) : β × β × β × β := (f x.1, f x.2.1, f x.2.2.1, f x.2.2.2)
theorem after_rg {a b : Int} (h0 : 0 ≤ a) (h8 : a < 8) (g0 : 0 ≤ b) (g8 : b < 8) : 0 ≤ afterI a b ∧ afterI a b < 8 := by
  rcases eight h0 h8 with rfl | rfl | rfl | rfl | rfl | rfl | rfl | rfl <;> rcases eight g0 g8 with rfl | rfl | rfl | rfl | rfl | rfl | rfl | rfl <;> decide
theorem arr_map {α β : Type} {t : Int} (h0 : 0 ≤ t) (h8 : t < 8) (f : α → β) (x : α × α × α × α) : map4 f (arr t x) = arr t (map4 f x) := by
  rcases eight h0 h8 with rfl | rfl | rfl | rfl | rfl | rfl | rfl | rfl <;> rfl
theorem arr_arr {a b : Int} (h0 : 0 ≤ a) (h8 : a < 8) (g0 : 0 ≤ b) (g8 : b < 8) (x : P4) : arr b (arr a x) = arr (afterI a b) x := by
  rcases eight h0 h8 with rfl | rfl | rfl | rfl | rfl | rfl | rfl | rfl <;> rcases eight g0 g8 with rfl | rfl | rfl | rfl | rfl | rfl | rfl | rfl <;> rfl
def q4 (x : P4) : Pic := .q x.1 x.2.1 x.2.2.1 x.2.2.2
theorem turn_q (t : Int) (a b c d : Pic) : (Pic.q a b c d).turn t = q4 (arr t (a.turn t, b.turn t, c.turn t, d.turn t)) := rfl
theorem turn_q4 (t : Int) (x : P4) : (q4 x).turn t = q4 (arr t (map4 (Pic.turn t) x)) := rfl
theorem turn_turn {a b : Int} (h0 : 0 ≤ a) (h8 : a < 8) (g0 : 0 ≤ b) (g8 : b < 8) : ∀ P : Pic, (P.turn a).turn b = P.turn (afterI a b)
  | .p c => rfl
  | .q x y z w => by
    rw [turn_q, turn_q4, arr_map h0 h8, arr_arr h0 h8 g0 g8, turn_q]
    simp only [map4]
    rw [turn_turn h0 h8 g0 g8 x, turn_turn h0 h8 g0 g8 y, turn_turn h0 h8 g0 g8 z, turn_turn h0 h8 g0 g8 w]
theorem arr_zero (x : P4) : arr 0 x = x := rfl
theorem turn_zero : ∀ P : Pic, P.turn 0 = P
  | .p c => rfl
  | .q x y z w => by rw [turn_q, arr_zero, turn_zero x, turn_zero y, turn_zero z, turn_zero w]; rfl
theorem turn_back {a : Int} (h0 : 0 ≤ a) (h8 : a < 8) : ∃ b, 0 ≤ b ∧ b < 8 ∧ ∀ P : Pic, (P.turn a).turn b = P := by
  have : ∃ b, 0 ≤ b ∧ b < 8 ∧ afterI a b = 0 := by
    rcases eight h0 h8 with rfl | rfl | rfl | rfl | rfl | rfl | rfl | rfl
    · exact ⟨0, by decide⟩
    · exact ⟨3, by decide⟩
    · exact ⟨2, by decide⟩
    · exact ⟨1, by decide⟩
    · exact ⟨4, by decide⟩
    · exact ⟨5, by decide⟩
    · exact ⟨6, by decide⟩
    · exact ⟨7, by decide⟩
  obtain ⟨b, b0, b8, e⟩ := this
  exact ⟨b, b0, b8, fun P => by rw [turn_turn h0 h8 b0 b8, e, turn_zero]⟩
theorem turn_inj {a : Int} (h0 : 0 ≤ a) (h8 : a < 8) {P Q : Pic} (e : P.turn a = Q.turn a) : P = Q := by
  obtain ⟨b, _, _, h⟩ := turn_back h0 h8
  rw [← h P, ← h Q, e]
theorem q4_depth {t : Int} (h0 : 0 ≤ t) (h8 : t < 8) (x : P4) : (q4 (arr t x)).depth = (q4 x).depth := by
  rcases eight h0 h8 with rfl | rfl | rfl | rfl | rfl | rfl | rfl | rfl <;> simp only [q4, arr, rots4, rot4, Pic.depth] <;> simp [rots4, rot4] <;> omega
theorem turn_depth {t : Int} (h0 : 0 ≤ t) (h8 : t < 8) : ∀ P : Pic, (P.turn t).depth = P.depth
  | .p c => rfl
  | .q x y z w => by
    rw [turn_q, q4_depth h0 h8]
    simp only [q4, Pic.depth]
    rw [turn_depth h0 h8 x, turn_depth h0 h8 y, turn_depth h0 h8 z, turn_depth h0 h8 w]
theorem arr_all {t : Int} (h0 : 0 ≤ t) (h8 : t < 8) (x : P4) (h : (arr t x).1 = (arr t x).2.1 ∧ (arr t x).2.1 = (arr t x).2.2.1 ∧ (arr t x).2.2.1 = (arr t x).2.2.2) : x.1 = x.2.1 ∧ x.2.1 = x.2.2.1 ∧ x.2.2.1 = x.2.2.2 := by
  obtain ⟨a, b, c, d⟩ := x
  rcases eight h0 h8 with rfl | rfl | rfl | rfl | rfl | rfl | rfl | rfl <;> simp [arr, rots4, rot4] at h ⊢ <;> obtain ⟨e1, e2, e3⟩ := h <;> subst_vars <;> simp
theorem turn_ok {t : Int} (h0 : 0 ≤ t) (h8 : t < 8) {P : Pic} (h : P.ok) : (P.turn t).ok := by
  cases P with
  | p c => exact h
  | q x y z w =>
    obtain ⟨h1, h2⟩ := h
    have hd := turn_depth h0 h8 (.q x y z w)
    rw [turn_q] at hd ⊢
    refine ⟨by show (q4 _).depth ≤ 12; rw [hd]; exact h1, fun ⟨e1, e2, e3, e4⟩ => h2 ?_⟩
    obtain ⟨f1, f2, f3⟩ := arr_all h0 h8 (x.turn t, y.turn t, z.turn t, w.turn t) ⟨e1, e2, e3⟩
    have g1 := turn_inj h0 h8 f1
    have g2 := turn_inj h0 h8 f2
    have g3 := turn_inj h0 h8 f3
    subst g1 g2 g3
    refine ⟨rfl, rfl, rfl, ?_⟩
    have e5 : (arr t (x.turn t, x.turn t, x.turn t, x.turn t)).1 = x.turn t := by
      rcases eight h0 h8 with rfl | rfl | rfl | rfl | rfl | rfl | rfl | rfl <;> rfl
    rw [e5, turn_depth h0 h8] at e4
    exact e4
theorem q4_cnt {t : Int} (h0 : 0 ≤ t) (h8 : t < 8) (x : P4) (k : Int) : (q4 (arr t x)).cnt k = (q4 x).cnt k := by
  have hd := q4_depth h0 h8 x
  obtain ⟨a, b, c, d⟩ := x
  simp only [q4, Pic.depth, Nat.add_left_cancel_iff] at hd
  simp only [q4, Pic.cnt]
  rw [hd]
  rcases eight h0 h8 with rfl | rfl | rfl | rfl | rfl | rfl | rfl | rfl <;> simp only [arr, rots4, rot4] <;> simp [rots4, rot4] <;> omega
theorem turn_cnt {t : Int} (h0 : 0 ≤ t) (h8 : t < 8) : ∀ (P : Pic) (k : Int), (P.turn t).cnt k = P.cnt k
  | .p c, k => rfl
  | .q x y z w, k => by
    rw [turn_q, q4_cnt h0 h8]
    simp only [q4, Pic.cnt]
    rw [turn_depth h0 h8 x, turn_depth h0 h8 y, turn_depth h0 h8 z, turn_depth h0 h8 w, turn_cnt h0 h8 x, turn_cnt h0 h8 y, turn_cnt h0 h8 z, turn_cnt h0 h8 w]
theorem pow4_le {s n : Nat} (h : s ≤ n) : (4 : Int) ^ s ≤ 4 ^ n := by
  have e1 : (4 : Int) ^ n = 4 ^ s * 4 ^ (n - s) := by rw [← pow4_add]; congr 1; omega
  have h1 : (1 : Int) ≤ 4 ^ (n - s) := by have := pow4 (n - s); omega
  have h2 := Int.mul_le_mul_of_nonneg_left h1 (Int.le_of_lt (pow4 s))
  rw [e1]; omega
theorem eqv_ints : ∀ ns : List Int, PyData.eqvAll (ns.map PyData.int) (ns.map PyData.int) = true
  | [] => rfl
  | n :: ns => by simp [PyData.eqvAll, PyData.eqv, eqv_ints ns]
def term4 (m : Nat) (P : Pic) (k : Nat) : Int := P.cnt (k : Int) * 4 ^ (m - P.depth)
def part4 (m : Nat) (l : List Pic) (k : Nat) : Int := (l.map fun P => term4 m P k).sum
theorem part4_add (m : Nat) (l : List Pic) (P : Pic) (k : Nat) : part4 m (l ++ [P]) k = part4 m l k + term4 m P k := by simp [part4]
theorem mk_ok {a b c d : Pic} (h : (Pic.q a b c d).ok) : Pic.mk a b c d = .q a b c d := if_neg h.2
/-! ### cells -/
def pick4 (i : Int) (a b c d : Pic) : Pic := if i = 0 then a else if i = 1 then b else if i = 2 then c else d
/-- the cell of a picture looked at in 2 ^ s cells each way -/
def Pic.cell : Pic → Nat → Int → Int → Int
  | .p c, _, _, _ => c
  | .q a b c d, s, x, y =>
    let h := (2 : Int) ^ (s - 1)
    let i := 2 * (y / h) + x / h
    if i = 0 then a.cell (s - 1) (x % h) (y % h) else if i = 1 then b.cell (s - 1) (x % h) (y % h) else if i = 2 then c.cell (s - 1) (x % h) (y % h) else d.cell (s - 1) (x % h) (y % h)
theorem pow2 (n : Nat) : (0 : Int) < 2 ^ n := Int.pow_pos (by decide)
theorem half_of {h x : Int} (hh : 0 < h) (h0 : 0 ≤ x) (h1 : x < 2 * h) : (x / h = 0 ∧ x % h = x ∧ x < h) ∨ (x / h = 1 ∧ x % h = x - h ∧ h ≤ x) := by
  by_cases c : x < h
  · exact .inl ⟨Int.ediv_eq_zero_of_lt h0 c, Int.emod_eq_of_lt h0 c, c⟩
  · refine .inr ?_
    have e : x = (x - h) + h * 1 := by omega
    have d1 : x / h = 1 := by rw [e, Int.add_mul_ediv_left _ _ (by omega), Int.ediv_eq_zero_of_lt (by omega) (by omega)]; rfl
    have d2 : x % h = x - h := by rw [e, Int.add_mul_emod_self_left, Int.emod_eq_of_lt (by omega) (by omega)]; omega
    exact ⟨d1, d2, by omega⟩
theorem cell_rot : ∀ (P : Pic) (s : Nat) (x y : Int), P.depth ≤ s → 0 ≤ x → x < 2 ^ s → 0 ≤ y → y < 2 ^ s → (P.turn 1).cell s x y = P.cell s y (2 ^ s - 1 - x)
  | .p c, _, _, _, _, _, _, _, _ => rfl
  | .q a b c d, 0, x, y, hd, _, _, _, _ => by simp [Pic.depth] at hd
  | .q a b c d, s + 1, x, y, hd, hx0, hx1, hy0, hy1 => by
    have e : (2 : Int) ^ (s + 1) = 2 * 2 ^ s := by rw [Int.pow_succ]; omega
    rw [e] at hx1 hy1 ⊢
    simp only [Pic.depth] at hd
    have hp := pow2 s
    show (Pic.q (c.turn 1) (a.turn 1) (d.turn 1) (b.turn 1)).cell (s + 1) x y = _
    simp only [Pic.cell, Nat.add_sub_cancel]
    rcases half_of hp hx0 hx1 with ⟨x1, x2, x3⟩ | ⟨x1, x2, x3⟩ <;> rcases half_of hp hy0 hy1 with ⟨y1, y2, y3⟩ | ⟨y1, y2, y3⟩ <;>
      rcases half_of (x := 2 * 2 ^ s - 1 - x) hp (by omega) (by omega) with ⟨z1, z2, z3⟩ | ⟨z1, z2, z3⟩ <;> try omega
    · rw [x1, x2, y1, y2, z1, z2]
      simp
      rw [cell_rot c s x y (by omega) hx0 (by omega) hy0 (by omega)]
      congr 1; omega
    · rw [x1, x2, y1, y2, z1, z2]
      simp
      rw [cell_rot d s x _ (by omega) hx0 (by omega) (by omega) (by omega)]
      congr 1; omega
    · rw [x1, x2, y1, y2, z1, z2]
      simp
      rw [cell_rot a s _ y (by omega) (by omega) (by omega) hy0 (by omega)]
      congr 1; omega
    · rw [x1, x2, y1, y2, z1, z2]
      simp
      rw [cell_rot b s _ _ (by omega) (by omega) (by omega) (by omega) (by omega)]
      congr 1; omega
theorem cell_mir : ∀ (P : Pic) (s : Nat) (x y : Int), P.depth ≤ s → 0 ≤ x → x < 2 ^ s → 0 ≤ y → y < 2 ^ s → (P.turn 4).cell s x y = P.cell s (2 ^ s - 1 - x) y
  | .p c, _, _, _, _, _, _, _, _ => rfl
  | .q a b c d, 0, x, y, hd, _, _, _, _ => by simp [Pic.depth] at hd
  | .q a b c d, s + 1, x, y, hd, hx0, hx1, hy0, hy1 => by
    have e : (2 : Int) ^ (s + 1) = 2 * 2 ^ s := by rw [Int.pow_succ]; omega
    rw [e] at hx1 hy1 ⊢
    simp only [Pic.depth] at hd
    have hp := pow2 s
    show (Pic.q (b.turn 4) (a.turn 4) (d.turn 4) (c.turn 4)).cell (s + 1) x y = _
    simp only [Pic.cell, Nat.add_sub_cancel]
    rcases half_of hp hx0 hx1 with ⟨x1, x2, x3⟩ | ⟨x1, x2, x3⟩ <;> rcases half_of hp hy0 hy1 with ⟨y1, y2, y3⟩ | ⟨y1, y2, y3⟩ <;>
      rcases half_of (x := 2 * 2 ^ s - 1 - x) hp (by omega) (by omega) with ⟨z1, z2, z3⟩ | ⟨z1, z2, z3⟩ <;> try omega
    · rw [x1, x2, y1, y2, z1, z2]
      simp
      rw [cell_mir b s x y (by omega) hx0 (by omega) hy0 (by omega)]
      congr 1; omega
    · rw [x1, x2, y1, y2, z1, z2]
      simp
      rw [cell_mir d s x _ (by omega) hx0 (by omega) (by omega) (by omega)]
      congr 1; omega
    · rw [x1, x2, y1, y2, z1, z2]
      simp
      rw [cell_mir a s _ y (by omega) (by omega) (by omega) hy0 (by omega)]
      congr 1; omega
    · rw [x1, x2, y1, y2, z1, z2]
      simp
      rw [cell_mir c s _ _ (by omega) (by omega) (by omega) (by omega) (by omega)]
      congr 1; omega
/-- where the cell that stands at (x, y) behind the turning came from -/
def fromI : Nat → Int → Int × Int → Int × Int
  | 0, n, p => p
  | k + 1, n, p => let r := fromI k n p; (r.2, n - 1 - r.1)
def fromT (t n x y : Int) : Int × Int := let r := fromI (t % 4).toNat n (x, y); if 3 < t then (n - 1 - r.1, r.2) else r
theorem fromI_rg (n : Int) : ∀ (k : Nat) (p : Int × Int), 0 ≤ p.1 → p.1 < n → 0 ≤ p.2 → p.2 < n → (0 ≤ (fromI k n p).1 ∧ (fromI k n p).1 < n) ∧ 0 ≤ (fromI k n p).2 ∧ (fromI k n p).2 < n
  | 0, p, a, b, c, d => ⟨⟨a, b⟩, c, d⟩
  | k + 1, p, a, b, c, d => by
    obtain ⟨⟨h1, h2⟩, h3, h4⟩ := fromI_rg n k p a b c d
    simp only [fromI]
    refine ⟨⟨h3, h4⟩, ?_, ?_⟩ <;> omega
theorem fromT_rg {t n x y : Int} (a : 0 ≤ x) (b : x < n) (c : 0 ≤ y) (d : y < n) : (0 ≤ (fromT t n x y).1 ∧ (fromT t n x y).1 < n) ∧ 0 ≤ (fromT t n x y).2 ∧ (fromT t n x y).2 < n := by
  obtain ⟨⟨h1, h2⟩, h3, h4⟩ := fromI_rg n (t % 4).toNat (x, y) a b c d
  simp only [fromT]
  split
  · refine ⟨⟨?_, ?_⟩, h3, h4⟩ <;> simp <;> omega
  · exact ⟨⟨h1, h2⟩, h3, h4⟩
theorem cell_turn {t : Int} (h0 : 0 ≤ t) (h8 : t < 8) (P : Pic) (s : Nat) (x y : Int) (hd : P.depth ≤ s) (a : 0 ≤ x) (b : x < 2 ^ s) (c : 0 ≤ y) (d : y < 2 ^ s) :
    (P.turn t).cell s x y = P.cell s (fromT t (2 ^ s) x y).1 (fromT t (2 ^ s) x y).2 := by
  have r1 : ∀ {u : Int}, 0 ≤ u → u < 8 → ∀ {x y : Int}, 0 ≤ x → x < 2 ^ s → 0 ≤ y → y < 2 ^ s → (P.turn (afterI u 1)).cell s x y = (P.turn u).cell s y (2 ^ s - 1 - x) := fun {u} u0 u8 {x y} a b c d => by
    rw [← turn_turn u0 u8 (by decide) (by decide), cell_rot _ s x y (by rw [turn_depth u0 u8]; exact hd) a b c d]
  have t1 : ∀ {x y : Int}, 0 ≤ x → x < 2 ^ s → 0 ≤ y → y < 2 ^ s → (P.turn 1).cell s x y = P.cell s y (2 ^ s - 1 - x) := fun {x y} a b c d => cell_rot P s x y hd a b c d
  have t2 : ∀ {x y : Int}, 0 ≤ x → x < 2 ^ s → 0 ≤ y → y < 2 ^ s → (P.turn 2).cell s x y = P.cell s (2 ^ s - 1 - x) (2 ^ s - 1 - y) := fun {x y} a b c d => by
    have := r1 (u := 1) (by decide) (by decide) a b c d
    rw [show afterI 1 1 = 2 from by decide] at this
    rw [this, t1 c d (by omega) (by omega)]
  have t3 : ∀ {x y : Int}, 0 ≤ x → x < 2 ^ s → 0 ≤ y → y < 2 ^ s → (P.turn 3).cell s x y = P.cell s (2 ^ s - 1 - y) x := fun {x y} a b c d => by
    have := r1 (u := 2) (by decide) (by decide) a b c d
    rw [show afterI 2 1 = 3 from by decide] at this
    rw [this, t2 c d (by omega) (by omega)]
    congr 1; omega
  have t4 : ∀ {x y : Int}, 0 ≤ x → x < 2 ^ s → 0 ≤ y → y < 2 ^ s → (P.turn 4).cell s x y = P.cell s (2 ^ s - 1 - x) y := fun {x y} a b c d => cell_mir P s x y hd a b c d
  have t5 : ∀ {x y : Int}, 0 ≤ x → x < 2 ^ s → 0 ≤ y → y < 2 ^ s → (P.turn 5).cell s x y = P.cell s (2 ^ s - 1 - y) (2 ^ s - 1 - x) := fun {x y} a b c d => by
    have := r1 (u := 4) (by decide) (by decide) a b c d
    rw [show afterI 4 1 = 5 from by decide] at this
    rw [this, t4 c d (by omega) (by omega)]
  have t6 : ∀ {x y : Int}, 0 ≤ x → x < 2 ^ s → 0 ≤ y → y < 2 ^ s → (P.turn 6).cell s x y = P.cell s x (2 ^ s - 1 - y) := fun {x y} a b c d => by
    have := r1 (u := 5) (by decide) (by decide) a b c d
    rw [show afterI 5 1 = 6 from by decide] at this
    rw [this, t5 c d (by omega) (by omega)]
    congr 1; omega
  have t7 : ∀ {x y : Int}, 0 ≤ x → x < 2 ^ s → 0 ≤ y → y < 2 ^ s → (P.turn 7).cell s x y = P.cell s y x := fun {x y} a b c d => by
    have := r1 (u := 6) (by decide) (by decide) a b c d
    rw [show afterI 6 1 = 7 from by decide] at this
    rw [this, t6 c d (by omega) (by omega)]
    congr 1; omega
  rcases eight h0 h8 with rfl | rfl | rfl | rfl | rfl | rfl | rfl | rfl
  · rw [turn_zero]; rfl
  · exact t1 a b c d
  · exact t2 a b c d
  · rw [t3 a b c d]; simp [fromT, fromI]; congr 1; omega
  · exact t4 a b c d
  · rw [t5 a b c d]; simp [fromT, fromI]
  · rw [t6 a b c d]; simp [fromT, fromI]; congr 1; omega
  · rw [t7 a b c d]; simp [fromT, fromI]; congr 1 <;> omega
/-! ### a base of the pictures: each is one of bs, turned -/
def Base (bs ps : List Pic) : Prop := ∀ P ∈ ps, ∃ B ∈ bs, ∃ t : Int, (0 ≤ t ∧ t < 8) ∧ P = B.turn t
theorem Base.turn {bs ps : List Pic} (h : Base bs ps) {P : Pic} (hP : P ∈ ps) {t : Int} (h0 : 0 ≤ t) (h8 : t < 8) : ∃ B ∈ bs, ∃ u : Int, (0 ≤ u ∧ u < 8) ∧ P.turn t = B.turn u := by
  obtain ⟨B, hB, u, ⟨u0, u8⟩, rfl⟩ := h P hP
  exact ⟨B, hB, afterI u t, after_rg u0 u8 h0 h8, turn_turn u0 u8 h0 h8 B⟩
theorem Base.mono {bs cs ps : List Pic} (h : Base bs ps) (s : ∀ B ∈ bs, B ∈ cs) : Base cs ps := fun P hP => by
  obtain ⟨B, hB, r⟩ := h P hP
  exact ⟨B, s B hB, r⟩
theorem Base.len {bs ps : List Pic} (h : Base bs ps) (nd : ps.Nodup) : ps.length ≤ 8 * bs.length := by
  have e := nodup_sub (m := bs.flatMap fun B => (List.range 8).map fun t : Nat => B.turn ((t : Nat) : Int)) nd fun P hP => by
    obtain ⟨B, hB, t, ⟨t0, t8⟩, rfl⟩ := h P hP
    simp only [List.mem_flatMap, List.mem_range, List.mem_map]
    exact ⟨B, hB, t.toNat, by omega, by rw [Int.toNat_of_nonneg t0]⟩
  have e2 : ∀ l : List Pic, (l.flatMap fun B => (List.range 8).map fun t : Nat => B.turn ((t : Nat) : Int)).length = 8 * l.length := by
    intro l
    induction l with
    | nil => rfl
    | cons x l ih => rw [List.flatMap_cons, List.length_append, ih, List.length_map, List.length_range, List.length_cons]; omega
  rw [e2] at e
  exact e
theorem Base.add {bs ps : List Pic} (h : Base bs ps) {P : Pic} (hP : ∃ B ∈ bs, ∃ t : Int, (0 ≤ t ∧ t < 8) ∧ P = B.turn t) : Base bs (addP ps P) := fun Q hQ => by
  rcases addP_sub hQ with z | z
  · exact h Q z
  · rw [z]; exact hP
theorem Base.app {bs ps qs : List Pic} (h : Base bs (ps ++ qs)) : Base bs ps := fun P hP => h P (List.mem_append_left _ hP)
/-! ### the table of the turned -/
theorem putK_keys {κ : Type} [DecidableEq κ] (kvs : List (κ × V)) (k : κ) (v : V) : (putK kvs k v).map (·.1) = if (valV kvs k).isSome then kvs.map (·.1) else kvs.map (·.1) ++ [k] := by
  unfold putK
  rw [valV_any]
  split
  · rw [List.map_map]
    apply List.map_congr_left
    intro kv _
    simp only [Function.comp]
    split <;> rfl
  · simp
theorem valV_mem {κ : Type} [DecidableEq κ] {kvs : List (κ × V)} {k : κ} (h : valV kvs k = none) : k ∉ kvs.map (·.1) := by
  intro hk
  obtain ⟨kv, h1, h2⟩ := List.mem_map.mp hk
  have : (kvs.any fun kv => decide (kv.1 = k)) = true := List.any_eq_true.mpr ⟨kv, h1, by simpa using h2⟩
  rw [valV_any, h] at this
  cases this
theorem WhOk.put {ps : List Pic} {wh : List (List Key × V)} (h : WhOk ps wh) {f t : Int} {P : Pic} (hP : IsF ps f P) (h0 : 0 ≤ t) (h8 : t < 8) (hm : P.turn t ∈ ps) : WhOk ps (putK wh [.inl f, .inl t] (.int (ix ps (P.turn t) : Nat))) where
  val := fun f' t' v e => by
    rw [valV_put] at e
    split at e
    · rename_i hk
      injection hk with k1 k2
      injection k2 with k2 _
      injection k1 with k1
      injection k2 with k2
      subst k1 k2
      exact ⟨P, hP, hm, (Option.some.inj e).symm⟩
    · exact h.val f' t' v e
  nd := by
    rw [putK_keys]
    cases q : valV wh [.inl f, .inl t] with
    | some v => simpa [q] using h.nd
    | none =>
      simp only [Option.isSome_none, Bool.false_eq_true, if_false]
      rw [List.nodup_append]
      refine ⟨h.nd, by simp, fun a ha b hb => ?_⟩
      simp only [List.mem_singleton] at hb
      subst hb
      exact fun z => valV_mem q (z ▸ ha)
  keys := fun k hk => by
    rw [putK_keys] at hk
    have new : ∃ i u : Nat, i < ps.length ∧ u < 8 ∧ ([.inl f, .inl t] : List Key) = [.inl (i : Int), .inl (u : Int)] := by
      refine ⟨f.toNat, t.toNat, by have := hP.1; have := hP.lt; omega, by omega, ?_⟩
      rw [Int.toNat_of_nonneg hP.1, Int.toNat_of_nonneg h0]
    split at hk
    · exact h.keys k hk
    · rcases List.mem_append.mp hk with z | z
      · exact h.keys k z
      · simp only [List.mem_singleton] at z
        subst z
        exact new
section
variable {C : Addr} {H H' : Hp} {p : Addr} {A : FA} {D : Addr → Prop} {ps : List Pic}
theorem Keep.setNew {F : Addr → Prop} {a : Addr} {o : HO} (h : Keep F H H') (f : H a = none) : Keep F H (upd H' a o) := fun b u e n => by
  rw [upd_ne (ne_of_none e f)]; exact h b u e n
theorem FacesAt.whirlSet (h : FacesAt C H p A D ps) {wh wh' : List (List Key × V)} (hw : H A.w = some (.dT wh)) (ok : WhOk ps wh') : FacesAt C (upd H A.w (.dT wh')) p A D ps := by
  have pf := foot_p h
  obtain ⟨⟨dx, ob⟩, ⟨ns, n1, n2, n3⟩, dd, ⟨ss, s1, s2, s3⟩, ⟨kvs, k1, k2⟩, ⟨wh0, w1, w2⟩, inv, dp, df, ex, ap1, ap2, ap3, ap4⟩ := h
  refine ⟨⟨dx, by rw [upd_ne (fun z => pf (by rw [z]; exact .inr (.inr (.inr (.inr rfl)))))]; exact ob⟩, ⟨ns, by rw [upd_ne (ne_of n1 hw (by intro z; cases z))]; exact n1, n2, fun i a P e1 e2 => ⟨(n3 i a P e1 e2).1, by
    rw [upd_ne (ne_of (n3 i a P e1 e2).2 hw (by intro z; cases z))]; exact (n3 i a P e1 e2).2⟩⟩, by rw [upd_ne (ne_of dd hw (by intro z; cases z))]; exact dd, ⟨ss, by rw [upd_ne (ne_of s1 hw (by intro z; cases z))]; exact s1, s2, fun i a P e1 e2 => ⟨(s3 i a P e1 e2).1, (s3 i a P e1 e2).2.1, by
    rw [upd_ne (ne_of (s3 i a P e1 e2).2.2 hw (by intro z; cases z))]; exact (s3 i a P e1 e2).2.2⟩⟩, ⟨kvs, by rw [upd_ne ap4]; exact k1, k2⟩, ⟨wh', upd_same, ok⟩, inv, dp, df, fun b hb => upd_ex (ex b hb), ap1, ap2, ap3, ap4⟩
/-- .. with more pictures, all out of the base -/
def AfterX (C : Addr) (H : Hp) (p : Addr) (A : FA) (D : Addr → Prop) (bs ps : List Pic) (R : List Pic → Hp → Prop) : Prop := ∀ qs, Base bs (ps ++ qs) → After C H p A D (ps ++ qs) (R (ps ++ qs))
end
theorem z_while {c : TT} {tb : TS} {D : Ends} {σ : L2.St} {H : Hp} (Pv : Nat → L2.St → Hp → Prop) (m0 : Nat) (h0 : Pv m0 σ H)
    (hs : ∀ m σ H, Pv m σ H → c σ H fun b H1 => if b = true then ∃ N : L2.St → Hp → Prop, (∀ σ' H', N σ' H' → ∃ m', m' < m ∧ Pv m' σ' H') ∧ tb { D with nx := N, ct := N, bk := D.nx } σ H1 else D.nx σ H1) : tWhile c tb D σ H := ⟨Pv, ⟨m0, h0⟩, hs⟩
theorem divW {i j : Int} (h0 : 0 < j) (h1 : j < 1000000000000) : CDivW i j := ⟨h0, Nat.lt_of_lt_of_le ((Nat.log2_lt (k := 40) (by omega)).mpr (by omega)) (by decide)⟩
theorem pow2_le {s n : Nat} (h : s ≤ n) : (2 : Int) ^ s ≤ 2 ^ n := by
  have e1 : (2 : Int) ^ n = 2 ^ s * 2 ^ (n - s) := by rw [← Int.pow_add]; congr 1; omega
  have h1 : (1 : Int) ≤ 2 ^ (n - s) := by have := pow2 (n - s); omega
  have h2 := Int.mul_le_mul_of_nonneg_left h1 (Int.le_of_lt (pow2 s))
  rw [e1]; omega
theorem szbig {n : Nat} (h : n < 16000000) : n < sizeLine := Nat.lt_of_lt_of_le h (by decide)
theorem k_pgl {X : Cx} {es : List Expr} {pos : Pos} {k : Nat} {tt : TGs} {n : Nat} (K : PySem.W.Frag) (hc : X.calm = true) (h : PGs X es tt) (hK : X.K = K := by rfl)
    (hn : (assignEach es X.env).length = n := by rfl) (hst : (assignEach es X.env).findIdx? (·.1) = none := by rfl) : PG X (.Tuple es k pos) (gLst K n tt) := by subst hK; exact pg_lst hc h hn hst
theorem z_gLst {K : PySem.W.Frag} {σ : L2.St} {H : Hp} {GQ : L2.St → Hp → Prop} {n : Nat} {t : TGs} {a : Addr} {xs : List V} (h : SqL K H a xs) (e : xs.length = n) (k : t xs σ H GQ) : gLst K n t (.ref a) σ H GQ := ⟨a, xs, rfl, h, e, k⟩
end Mur
/-! The laws' own nodes of pictures. -/
namespace Mur
open PySem hiding start
open PySem.Spec L2
open PyProof.Rows hiding St
/-! data of tuples alone stay wherever the tuples stay -/
mutual
def flat : PyData → Bool
  | .list _ => false
  | .tuple ds => flatAll ds
  | _ => true
def flatAll : List PyData → Bool
  | [] => true
  | d :: ds => flat d && flatAll ds
end
mutual
theorem dv_stay {H H' : Hp} (k : ∀ a xs, H a = some (.tup xs) → H' a = some (.tup xs)) : ∀ {d : PyData} {v : V}, flat d = true → Dv H v d → Dv H' v d
  | _, _, _, .non => .non
  | _, _, _, .bl b => .bl b
  | _, _, _, .int i => .int i
  | _, _, _, .str x => .str x
  | _, _, f, .lst h a => by simp [flat] at f
  | _, _, f, .tup h a => .tup (k _ _ h) (dvAll_stay k (by simpa [flat] using f) a)
theorem dvAll_stay {H H' : Hp} (k : ∀ a xs, H a = some (.tup xs) → H' a = some (.tup xs)) : ∀ {ds : List PyData} {vs : List V}, flatAll ds = true → DvAll H vs ds → DvAll H' vs ds
  | _, _, _, .nil => .nil
  | _, _, f, .cons h t => by
    simp only [flatAll, Bool.and_eq_true] at f
    exact .cons (dv_stay k f.1 h) (dvAll_stay k f.2 t)
end
theorem DvAll.snoc {H : Hp} {v : V} {d : PyData} (hv : Dv H v d) : ∀ {vs : List V} {ds : List PyData}, DvAll H vs ds → DvAll H (vs ++ [v]) (ds ++ [d])
  | _, _, .nil => .cons hv .nil
  | _, _, .cons h t => .cons h (DvAll.snoc hv t)
theorem flat_mem : ∀ {ds : List PyData} {d : PyData}, flatAll ds = true → d ∈ ds → flat d = true
  | [], d, _, h => by simp at h
  | e :: ds, d, f, h => by
    simp only [flatAll, Bool.and_eq_true] at f
    rcases List.mem_cons.mp h with rfl | h
    · exact f.1
    · exact flat_mem f.2 h
theorem tup_upd {H : Hp} {l : Addr} {xs : List V} {o : HO} (h : H l = some (.lst xs)) : ∀ a ys, H a = some (.tup ys) → upd H l o a = some (.tup ys) := fun a ys e => by
  rw [upd_ne (ne_of e h (by intro z; cases z))]; exact e
theorem Keep.tup {C : Addr} {H H' : Hp} {p : Addr} {A : FA} {D : Addr → Prop} {ps : List Pic} (h : FacesAt C H p A D ps) (k : Keep A.foot H H') : ∀ a ys, H a = some (.tup ys) → H' a = some (.tup ys) := fun a ys e => k _ _ e (foot_tup h e)
/-! rows of figures -/
def zsI (b : Int) : Nat → Int → Int
  | 0, z => z
  | j + 1, z => zsI b j z / b
def tsI : Nat → Int → Int
  | 0, t => t
  | j + 1, t => (tsI j t * 48271 + 9973 * (j : Int) + 11) % 2147483647
def absI (z : Int) : Int := if z < 0 then -z else z
def rowI (z : Int) (m : Nat) (b : Int) : List Int :=
  if (1000000000000000000 : Int) ≤ absI z then (List.range m).map fun j : Nat => zsI b j (absI z) % b
  else (List.range m).map fun j : Nat => tsI (j + 1) ((absI z % 1000003 + 17) * 69621 % 2147483647) / 1021 % b
theorem row_len (z : Int) (m : Nat) (b : Int) : (rowI z m b).length = m := by
  unfold rowI
  by_cases h : (1000000000000000000 : Int) ≤ absI z
  · rw [if_pos h]; simp
  · rw [if_neg h]; simp
theorem row_rg {z : Int} {m : Nat} {b : Int} (hb : 0 < b) : ∀ x ∈ rowI z m b, 0 ≤ x ∧ x < b := by
  intro x hx
  unfold rowI at hx
  by_cases h : (1000000000000000000 : Int) ≤ absI z
  · rw [if_pos h] at hx
    obtain ⟨j, _, rfl⟩ := List.mem_map.mp hx
    exact ⟨Int.emod_nonneg _ (by omega), Int.emod_lt_of_pos _ hb⟩
  · rw [if_neg h] at hx
    obtain ⟨j, _, rfl⟩ := List.mem_map.mp hx
    exact ⟨Int.emod_nonneg _ (by omega), Int.emod_lt_of_pos _ hb⟩
theorem row_get {z : Int} {m : Nat} {b : Int} {i : Nat} (h : i < m) : (rowI z m b)[i]? = some ((rowI z m b).getD i 0) := by
  rw [List.getD_eq_getElem?_getD, List.getElem?_eq_getElem (by rw [row_len]; exact h)]; rfl
theorem row_getrg {z : Int} {m : Nat} {b : Int} (hb : 0 < b) {i : Nat} (h : i < m) : 0 ≤ (rowI z m b).getD i 0 ∧ (rowI z m b).getD i 0 < b := row_rg hb _ (List.mem_of_getElem? (row_get h))
theorem atI_row {z : Int} {m : Nat} {b : Int} {i : Nat} {k : Int} (h : i < m) (e : k = (i : Nat)) : atI ((rowI z m b).map V.int) k = some (.int ((rowI z m b).getD i 0)) := atI_of (by rw [List.getElem?_map, row_get h]; rfl) e
theorem ts_rg {t : Int} (h0 : 0 ≤ t) (h1 : t < 2147483647) : ∀ j, 0 ≤ tsI j t ∧ tsI j t < 2147483647
  | 0 => ⟨h0, h1⟩
  | j + 1 => ⟨Int.emod_nonneg _ (by decide), Int.emod_lt_of_pos _ (by decide)⟩
def pickI (f o m : Int) : Int := if f % 2 = 0 ∧ 10 < m then (if m - 1 - o % 4 > 10 then m - 1 - o % 4 else 10) else o
theorem pick_rg {f o m : Int} (h0 : 0 ≤ o) (h1 : o < 10) (hm : 10 ≤ m) : 0 ≤ pickI f o m ∧ pickI f o m < m := by
  unfold pickI
  split
  · split <;> omega
  · omega
def quI (z m : Int) : List (Int × Int) := (List.range 4).map fun k : Nat => (pickI ((rowI z 12 10).getD (3 * k) 0) ((rowI z 12 10).getD (3 * k + 1) 0) m, (rowI z 12 10).getD (3 * k + 2) 0 % 8)
def pairD (x : Int × Int) : PyData := .tuple [.int x.1, .int x.2]
theorem qu_len (z m : Int) : (quI z m).length = 4 := by simp [quI]
theorem qu_rg {z m : Int} (hm : 10 ≤ m) : ∀ x ∈ quI z m, (0 ≤ x.1 ∧ x.1 < m) ∧ 0 ≤ x.2 ∧ x.2 < 8 := by
  intro x hx
  simp only [quI, List.mem_map, List.mem_range] at hx
  obtain ⟨k, hk, rfl⟩ := hx
  have h1 := row_getrg (z := z) (m := 12) (b := 10) (by decide) (i := 3 * k + 1) (by omega)
  exact ⟨pick_rg h1.1 h1.2 hm, Int.emod_nonneg _ (by decide), Int.emod_lt_of_pos _ (by decide)⟩
theorem flat_pairs : ∀ l : List (Int × Int), flatAll (l.map pairD) = true
  | [] => rfl
  | x :: l => by simp [flatAll, flat, pairD, flat_pairs l]
/-! nodes -/
inductive Nd where
  | pl (c : Int)
  | qu (l : List (Int × Int))
def Nd.data : Nd → PyData
  | .pl c => .tuple [.int c]
  | .qu l => .tuple (l.map pairD)
theorem Nd.flat (n : Nd) : Mur.flat n.data = true := by
  cases n with
  | pl c => rfl
  | qu l => exact flat_pairs l
/-- the picture that (i, t) names -/
def atP (Ps : List Pic) (x : Int × Int) : Pic := (Ps.getD x.1.toNat (.p 0)).turn x.2
/-- nodes and their pictures -/
def NdIs (Ps : List Pic) (P : Pic) : Nd → Prop
  | .pl c => P = .p c
  | .qu l => ∃ a b c d : Int × Int, l = [a, b, c, d] ∧ P = .q (atP Ps a) (atP Ps b) (atP Ps c) (atP Ps d) ∧ ∀ x ∈ l, (0 ≤ x.1 ∧ x.1 < Ps.length) ∧ 0 ≤ x.2 ∧ x.2 < 8
theorem atP_app {Ps Qs : List Pic} {x : Int × Int} (h : 0 ≤ x.1 ∧ x.1 < Ps.length) : atP (Ps ++ Qs) x = atP Ps x := by
  have : x.1.toNat < Ps.length := by omega
  simp only [atP, List.getD_eq_getElem?_getD]
  rw [List.getElem?_append_left this]
theorem NdIs.app {Ps Qs : List Pic} {P : Pic} {n : Nd} (h : NdIs Ps P n) : NdIs (Ps ++ Qs) P n := by
  cases n with
  | pl c => exact h
  | qu l =>
    obtain ⟨a, b, c, d, rfl, rfl, hr⟩ := h
    refine ⟨a, b, c, d, rfl, ?_, fun x hx => ?_⟩
    · rw [atP_app (hr a (by simp)).1, atP_app (hr b (by simp)).1, atP_app (hr c (by simp)).1, atP_app (hr d (by simp)).1]
    · have := hr x hx
      refine ⟨⟨this.1.1, ?_⟩, this.2⟩
      have := this.1.2
      simp; omega
theorem atP_get {Ps : List Pic} {x : Int × Int} (h : 0 ≤ x.1 ∧ x.1 < Ps.length) : ∃ P, Ps[x.1.toNat]? = some P ∧ atP Ps x = P.turn x.2 := by
  have hl : x.1.toNat < Ps.length := by omega
  exact ⟨Ps[x.1.toNat], List.getElem?_eq_getElem hl, by simp [atP, hl]⟩
/-- the lists nodes_here, deeps, told -/
structure NodesL (H : Hp) (nl : Addr) (Ps : List Pic) (nds : List Nd) : Prop where
  len : nds.length = Ps.length
  lst : ∃ vs, H nl = some (.lst vs) ∧ DvAll H vs (nds.map Nd.data)
  is : ∀ (i : Nat) (P : Pic) (n : Nd), Ps[i]? = some P → nds[i]? = some n → NdIs (Ps.take i) P n
theorem flat_nds : ∀ l : List Nd, flatAll (l.map Nd.data) = true
  | [] => rfl
  | x :: l => by simp [flatAll, x.flat, flat_nds l]
theorem NodesL.stay {H H' : Hp} {nl : Addr} {Ps : List Pic} {nds : List Nd} (h : NodesL H nl Ps nds) (k : ∀ a xs, H a = some (.tup xs) → H' a = some (.tup xs)) (kl : ∀ vs, H nl = some (.lst vs) → H' nl = some (.lst vs)) : NodesL H' nl Ps nds := by
  obtain ⟨l, ⟨vs, h1, h2⟩, h3⟩ := h
  exact ⟨l, ⟨vs, kl _ h1, dvAll_stay k (flat_nds nds) h2⟩, h3⟩
theorem NodesL.same {H H' : Hp} {nl : Addr} {Ps : List Pic} {nds : List Nd} (h : NodesL H nl Ps nds) (s : Same H H') : NodesL H' nl Ps nds := h.stay (fun a xs e => s _ _ e) fun vs e => s _ _ e
theorem DvAll.at {H : Hp} : ∀ {ds : List PyData} {vs : List V} {i : Nat} {d : PyData}, DvAll H vs ds → ds[i]? = some d → ∃ v, vs[i]? = some v ∧ Dv H v d
  | _, _, _, _, .nil, e => by simp at e
  | _, _, 0, _, .cons h _, e => by simp at e; subst e; exact ⟨_, rfl, h⟩
  | _, _, i + 1, d, .cons _ t, e => by
    obtain ⟨v, h1, h2⟩ := DvAll.at (i := i) (d := d) t (by simpa using e)
    exact ⟨v, by simpa using h1, h2⟩
/-- the node at i, read in the heap -/
theorem NodesL.get2 {H : Hp} {nl : Addr} {Ps : List Pic} {nds : List Nd} (h : NodesL H nl Ps nds) {i : Nat} {P : Pic} (hP : Ps[i]? = some P) :
    ∃ vs q xs n, H nl = some (.lst vs) ∧ vs.length = Ps.length ∧ vs[i]? = some (.ref q) ∧ H q = some (.tup xs) ∧ NdIs Ps P n ∧ Dv H (.ref q) n.data ∧
      ((∃ c, n = .pl c ∧ P = .p c ∧ xs = [.int c]) ∨ ∃ a b c d : Int × Int, n = .qu [a, b, c, d] ∧ P = .q (atP Ps a) (atP Ps b) (atP Ps c) (atP Ps d) ∧ (∀ x ∈ [a, b, c, d], (0 ≤ x.1 ∧ x.1 < Ps.length) ∧ 0 ≤ x.2 ∧ x.2 < 8) ∧ xs.length = 4 ∧ DvAll H xs [pairD a, pairD b, pairD c, pairD d] ∧ ∀ x ∈ [a, b, c, d], x.1 < i) := by
  obtain ⟨hl, ⟨vs, h1, h2⟩, h3⟩ := h
  have hi : i < nds.length := by have := (List.getElem?_eq_some_iff.mp hP).1; omega
  have hn : nds[i]? = some nds[i] := List.getElem?_eq_getElem hi
  have his0 := h3 i P _ hP hn
  have his : NdIs Ps P nds[i] := by
    have h := his0.app (Qs := Ps.drop i)
    rw [List.take_append_drop] at h
    exact h
  obtain ⟨v, e1, e2⟩ := DvAll.at (i := i) (d := nds[i].data) h2 (by rw [List.getElem?_map, hn]; rfl)
  have hlen := h2.len
  rw [List.length_map, hl] at hlen
  generalize nds[i] = n at his0 his e2
  cases n with
  | pl c =>
    obtain rfl : P = .p c := his
    cases e2 with
    | @tup q xs _ hq ha =>
    cases ha with
    | cons g t =>
      cases t
      cases g
      exact ⟨vs, q, _, .pl c, h1, hlen, e1, hq, rfl, .tup hq (.cons (.int c) .nil), .inl ⟨c, rfl, rfl, rfl⟩⟩
  | qu l =>
    obtain ⟨a, b, c, d, rfl, rfl, hr⟩ := his
    cases e2 with
    | @tup q xs _ hq ha =>
      exact ⟨vs, q, xs, .qu [a, b, c, d], h1, hlen, e1, hq, ⟨a, b, c, d, rfl, rfl, hr⟩, .tup hq ha, .inr ⟨a, b, c, d, rfl, rfl, hr, ha.len, ha, fun x hx => by
        obtain ⟨a', b', c', d', e1, _, hr0⟩ := his0
        have h := (hr0 x hx).1.2
        rw [List.length_take] at h
        omega⟩⟩
theorem NodesL.get {H : Hp} {nl : Addr} {Ps : List Pic} {nds : List Nd} (h : NodesL H nl Ps nds) {i : Nat} {P : Pic} (hP : Ps[i]? = some P) :
    ∃ vs q xs n, H nl = some (.lst vs) ∧ vs.length = Ps.length ∧ vs[i]? = some (.ref q) ∧ H q = some (.tup xs) ∧ NdIs Ps P n ∧ Dv H (.ref q) n.data ∧
      ((∃ c, n = .pl c ∧ P = .p c ∧ xs = [.int c]) ∨ ∃ a b c d : Int × Int, n = .qu [a, b, c, d] ∧ P = .q (atP Ps a) (atP Ps b) (atP Ps c) (atP Ps d) ∧ (∀ x ∈ [a, b, c, d], (0 ≤ x.1 ∧ x.1 < Ps.length) ∧ 0 ≤ x.2 ∧ x.2 < 8) ∧ xs.length = 4 ∧ DvAll H xs [pairD a, pairD b, pairD c, pairD d]) := by
  obtain ⟨vs, q, xs, n, h1, h2, h3, h4, h5, h6, h7⟩ := h.get2 hP
  refine ⟨vs, q, xs, n, h1, h2, h3, h4, h5, h6, ?_⟩
  rcases h7 with h7 | ⟨a, b, c, d, e1, e2, e3, e4, e5, _⟩
  · exact .inl h7
  · exact .inr ⟨a, b, c, d, e1, e2, e3, e4, e5⟩
theorem pair_of {H : Hp} {v : V} {x : Int × Int} (h : Dv H v (pairD x)) : ∃ q, v = .ref q ∧ H q = some (.tup [.int x.1, .int x.2]) := by
  cases h with
  | @tup q xs _ hq ha =>
  cases ha with
  | cons g t =>
  cases g
  cases t with
  | cons g2 t2 =>
  cases g2
  cases t2
  exact ⟨q, rfl, hq⟩
/-! the whole stand: the store and the three lists -/
structure Stand (C : Addr) (H : Hp) (p : Addr) (A : FA) (D : Addr → Prop) (ps : List Pic) (nl dl tl : Addr) (Ps : List Pic) (nds : List Nd) : Prop where
  F : FacesAt C H p A D ps
  N : NodesL H nl Ps nds
  dp : H dl = some (.lst (Ps.map fun P => V.int (P.depth : Nat)))
  td : H tl = some (.lst (Ps.map fun P => V.int (ix ps P : Nat)))
  mem : ∀ P ∈ Ps, P ∈ ps
  base : Base Ps ps
  nn : ¬ D nl
  nd : ¬ D dl
  nt : ¬ D tl
  d1 : nl ≠ dl
  d2 : nl ≠ tl
  d3 : dl ≠ tl
  ten : 10 ≤ Ps.length
section
variable {C : Addr} {H H' : Hp} {p : Addr} {A : FA} {D D' : Addr → Prop} {ps qs : List Pic} {nl dl tl : Addr} {Ps : List Pic} {nds : List Nd}
theorem Stand.same (h : Stand C H p A D ps nl dl tl Ps nds) (s : Same H H') : Stand C H' p A D ps nl dl tl Ps nds :=
  ⟨h.F.same s, h.N.same s, s _ _ h.dp, s _ _ h.td, h.mem, h.base, h.nn, h.nd, h.nt, h.d1, h.d2, h.d3, h.ten⟩
theorem fresh_not {b : Addr} {o : HO} (e : H b = some o) (n : ¬ D b) (d2 : ∀ b, D' b → D b ∨ H b = none) : ¬ D' b := fun z => (d2 b z).elim n fun q => by rw [e] at q; cases q
theorem Stand.after (h : Stand C H p A D ps nl dl tl Ps nds) (kp : Keep A.foot H H') (hF : FacesAt C H' p A D' (ps ++ qs)) (hB : Base Ps (ps ++ qs)) (d2 : ∀ b, D' b → D b ∨ H b = none) : Stand C H' p A D' (ps ++ qs) nl dl tl Ps nds := by
  obtain ⟨_, ⟨vs, hv, _⟩, _⟩ := h.N
  refine ⟨hF, h.N.stay (kp.tup h.F) (fun vs e => kp _ _ e (h.F.ofFoot h.nn)), kp _ _ h.dp (h.F.ofFoot h.nd), ?_, fun P hP => List.mem_append_left _ (h.mem P hP), hB, fresh_not hv h.nn d2, fresh_not h.dp h.nd d2, fresh_not h.td h.nt d2, h.d1, h.d2, h.d3, h.ten⟩
  rw [kp _ _ h.td (h.F.ofFoot h.nt)]
  congr 2
  apply List.map_congr_left
  intro P hP
  rw [ix_app (h.mem P hP)]
theorem Stand.mid (h : Stand C H p A D ps nl dl tl Ps nds) (kp : Keep A.foot H H') (d2 : ∀ b, D' b → D b ∨ H b = none) (qs : List Pic) : NodesL H' nl Ps nds ∧ H' dl = some (.lst (Ps.map fun P => V.int (P.depth : Nat))) ∧ H' tl = some (.lst (Ps.map fun P => V.int (ix (ps ++ qs) P : Nat))) ∧
    (∀ P ∈ Ps, P ∈ ps ++ qs) ∧ ¬ D' nl ∧ ¬ D' dl ∧ ¬ D' tl := by
  obtain ⟨_, ⟨vs, hv, _⟩, _⟩ := h.N
  refine ⟨h.N.stay (kp.tup h.F) (fun vs e => kp _ _ e (h.F.ofFoot h.nn)), kp _ _ h.dp (h.F.ofFoot h.nd), ?_, fun P hP => List.mem_append_left _ (h.mem P hP), fresh_not hv h.nn d2, fresh_not h.dp h.nd d2, fresh_not h.td h.nt d2⟩
  rw [kp _ _ h.td (h.F.ofFoot h.nt)]
  congr 2
  apply List.map_congr_left
  intro P hP
  rw [ix_app (h.mem P hP)]
theorem Stand.updL (h : Stand C H p A D ps nl dl tl Ps nds) {L : Addr} {xs : List V} {o : HO} (hL : H L = some (.lst xs)) (nL : ¬ D L) (e1 : L ≠ nl) (e2 : L ≠ dl) (e3 : L ≠ tl) : Stand C (upd H L o) p A D ps nl dl tl Ps nds :=
  ⟨h.F.keep fun b u hb e => by rw [upd_ne (fun z => nL (by rw [← z]; exact hb))]; exact e, h.N.stay (tup_upd hL) (fun vs e => by rw [upd_ne e1.symm]; exact e), by rw [upd_ne e2.symm]; exact h.dp, by rw [upd_ne e3.symm]; exact h.td, h.mem, h.base, h.nn, h.nd, h.nt, h.d1, h.d2, h.d3, h.ten⟩
theorem back_fresh (hF : FacesAt C H' p A D' ps) (kp : Keep A.foot H H') {b : Addr} (z : H' b = none) : H b = none := by
  cases e : H b with
  | none => rfl
  | some o =>
    by_cases hf : A.foot b
    · obtain ⟨o2, e2⟩ := hF.ex b (hF.df b hf)
      rw [e2] at z; cases z
    · rw [kp b o e hf] at z; cases z
theorem quads_get {xs : List V} {l : List (Int × Int)} (hall : DvAll H xs (l.map pairD)) (hr : ∀ x ∈ l, (0 ≤ x.1 ∧ x.1 < Ps.length) ∧ 0 ≤ x.2 ∧ x.2 < 8) {k : Nat} {v : V} (e : xs[k]? = some v) :
    ∃ (z : Int × Int) (w : Addr) (r : Pic), l[k]? = some z ∧ v = .ref w ∧ H w = some (.tup [.int z.1, .int z.2]) ∧ Ps[z.1.toNat]? = some r ∧ atP Ps z = r.turn z.2 ∧ (0 ≤ z.1 ∧ z.1 < Ps.length) ∧ 0 ≤ z.2 ∧ z.2 < 8 := by
  obtain ⟨dd, e1, e2⟩ := hall.get e
  rw [List.getElem?_map] at e1
  cases e3 : l[k]? with
  | none => rw [e3] at e1; cases e1
  | some z =>
    rw [e3] at e1
    obtain rfl := Option.some.inj e1
    obtain ⟨w, rfl, hw⟩ := pair_of e2
    have hz := hr z (List.mem_of_getElem? e3)
    obtain ⟨r, hr1, hr2⟩ := atP_get hz.1
    exact ⟨z, w, r, rfl, rfl, hw, hr1, hr2, hz.1, hz.2⟩
theorem Stand.push {P : Pic} {n : Nd} {v : V} {vs : List V} (hF : FacesAt C H p A D ps) (hN : NodesL H nl Ps nds) (hd : H dl = some (.lst (Ps.map fun P => V.int (P.depth : Nat)))) (ht : H tl = some (.lst (Ps.map fun P => V.int (ix ps P : Nat)))) (mem : ∀ P ∈ Ps, P ∈ ps)
    (base : Base (Ps ++ [P]) ps) (nn : ¬ D nl) (nd : ¬ D dl) (nt : ¬ D tl) (d1 : nl ≠ dl) (d2 : nl ≠ tl) (d3 : dl ≠ tl) (ten : 10 ≤ Ps.length) (hm : P ∈ ps) (is : NdIs Ps P n) (hv : Dv H v n.data) (hvs : H nl = some (.lst vs)) :
    Stand C (upd (upd (upd H nl (.lst (vs ++ [v]))) dl (.lst ((Ps.map fun P => V.int (P.depth : Nat)) ++ [.int (P.depth : Nat)]))) tl (.lst ((Ps.map fun P => V.int (ix ps P : Nat)) ++ [.int (ix ps P : Nat)]))) p A D ps nl dl tl (Ps ++ [P]) (nds ++ [n]) := by
  obtain ⟨hl, ⟨vs', e1, e2⟩, e3⟩ := hN
  obtain rfl : vs' = vs := by rw [hvs] at e1; injection e1 with e1; injection e1 with e1; exact e1.symm
  have k1 : ∀ a xs, H a = some (.tup xs) → (upd (upd (upd H nl (.lst (vs' ++ [v]))) dl (.lst ((Ps.map fun P => V.int (P.depth : Nat)) ++ [.int (P.depth : Nat)]))) tl (.lst ((Ps.map fun P => V.int (ix ps P : Nat)) ++ [.int (ix ps P : Nat)]))) a = some (.tup xs) := fun a xs e => by
    rw [upd_ne (ne_of e ht (by intro z; cases z)), upd_ne (ne_of e hd (by intro z; cases z)), upd_ne (ne_of e hvs (by intro z; cases z))]; exact e
  refine ⟨?_, ⟨by simp [hl], ⟨vs' ++ [v], by rw [upd_ne d2, upd_ne d1, upd_same], ?_⟩, ?_⟩, by rw [upd_ne d3, upd_same, List.map_append]; rfl, by rw [upd_same, List.map_append]; rfl, ?_, base, nn, nd, nt, d1, d2, d3, by simp; omega⟩
  · refine hF.keep fun b o hb e => ?_
    rw [upd_ne (fun z => nt (by rw [← z]; exact hb)), upd_ne (fun z => nd (by rw [← z]; exact hb)), upd_ne (fun z => nn (by rw [← z]; exact hb))]; exact e
  · rw [List.map_append]
    exact DvAll.snoc (dv_stay k1 n.flat hv) (dvAll_stay k1 (flat_nds nds) e2)
  · intro i P' n' h1 h2
    by_cases hi : i < Ps.length
    · rw [List.getElem?_append_left hi] at h1
      rw [List.getElem?_append_left (by omega)] at h2
      rw [List.take_append_of_le_length (by omega)]
      exact e3 i P' n' h1 h2
    · have hi2 : i = Ps.length := by
        have := (List.getElem?_eq_some_iff.mp h1).1
        simp at this; omega
      subst hi2
      rw [List.getElem?_append_right (Nat.le_refl _)] at h1
      rw [← hl, List.getElem?_append_right (Nat.le_refl _)] at h2
      simp at h1 h2
      subst h1 h2
      rw [List.take_append_of_le_length (Nat.le_refl _), List.take_of_length_le (Nat.le_refl _)]
      exact is
  · intro P' hP'
    rcases List.mem_append.mp hP' with z | z
    · exact mem P' z
    · simp at z; subst z; exact hm
end
def colP : Pic → Int
  | .p c => c
  | _ => 0
theorem keep_seq {K : PySem.W.Frag} {F : Addr → Prop} {H H' : Hp} {a : Addr} {xs : List V} (k : Keep F H H') (f : ∀ b, F b → H b = none) (h : SqL K H a xs) : SqL K H' a xs := by
  rcases h with (h | ⟨o, h⟩) | h
  · exact .inl (.inl (k _ _ h fun z => by rw [f _ z] at h; cases h))
  · exact .inl (.inr ⟨o, k _ _ h fun z => by rw [f _ z] at h; cases h⟩)
  · exact .inr h
theorem cut_ints (ns : List Int) (lo hi : Option Int) : ∃ ms : List Int, cutV (ns.map V.int) lo hi = ms.map V.int ∧ ms.length ≤ ns.length := by
  unfold cutV
  refine ⟨(ns.drop (HT.sIx (ns.map V.int).length 0 lo)).take (HT.sIx (ns.map V.int).length (ns.map V.int).length hi - HT.sIx (ns.map V.int).length 0 lo), by rw [List.map_take, List.map_drop], ?_⟩
  rw [List.length_take, List.length_drop]
  omega
/-- the ten plain pictures -/
def plains (n : Nat) : List Pic := (List.range n).map fun k : Nat => Pic.p (k : Int)
theorem plains_get {n k : Nat} (h : k < n) : (plains n)[k]? = some (.p (k : Int)) := by simp [plains, h]
theorem plains_nodup (n : Nat) : (plains n).Nodup := by
  unfold plains List.Nodup
  rw [List.pairwise_map]
  refine List.Pairwise.imp (fun {a b} h e => h ?_) (List.nodup_range (n := n))
  injection e with e
  omega
theorem plains_add (n : Nat) : addP (plains n) (.p (n : Int)) = plains (n + 1) := by
  have : Pic.p (n : Int) ∉ plains n := by
    simp only [plains, List.mem_map, List.mem_range]
    rintro ⟨k, hk, e⟩
    injection e with e
    omega
  unfold addP
  rw [if_neg this]
  simp [plains, List.range_succ]
theorem plains_ix {n k : Nat} (h : k < n) : ix (plains n) (.p (k : Int)) = k := ix_of (plains_nodup n) (plains_get h)
theorem plains_len (n : Nat) : (plains n).length = n := by simp [plains]
theorem base_plains (n : Nat) : Base (plains n) (plains n) := fun P hP => ⟨P, hP, 0, by decide, (turn_zero P).symm⟩
end Mur
/-! A list comprehension whose element may let an exception out of the def. -/
namespace Mur
open PySem hiding start
open PySem.Spec L2
open PyProof.Rows hiding St
/-- what flies in the block: a call's exception -/
def Flies (Y : Cx) (E : XK) (u : Value) (s' : Shared) : Prop := ∃ pins σ H s, Inv Y pins σ H s ∧ L2.CX Y.prog Y.w Y.stack H s E u s'
abbrev blkE (X : Cx) (s : Shared) (H : Hp) (scope : Scope) (ce : Env) (fp : List Addr) (E : XK) : Cx := (X.blk s H scope ce fp).tr [] (Flies (X.blk s H scope ce fp) E)
section
variable {X : Cx} {s3 : Shared} {H3 : Hp} {scope : Scope} {ce : Env} {fp : List Addr} {E : XK} {pins : List (Addr × Obj)} {σ : L2.St} {H : Hp} {s : Shared}
theorem inE (I : Inv (X.blk s3 H3 scope ce fp) pins σ H s) : Inv (blkE X s3 H3 scope ce fp E) pins σ H s :=
  ⟨I.ok.toTry _ _, I.os, I.bare, I.base, I.loc, I.cell, I.free, I.freeC, I.pin, I.hok, I.len⟩
theorem outE (I : Inv (blkE X s3 H3 scope ce fp E) pins σ H s) : Inv (X.blk s3 H3 scope ce fp) pins σ H s :=
  ⟨I.ok.ofTry, I.os, I.bare, I.base, I.loc, I.cell, I.free, I.freeC, I.pin, I.hok, I.len⟩
/-- a callee's exceptions pass -/
theorem passE : Passes (L2.CX (blkE X s3 H3 scope ce fp E).prog (blkE X s3 H3 scope ce fp E).w) (blkE X s3 H3 scope ce fp E) E := fun pins σ H s e s' I c => ⟨pins, σ, H, s, outE I, c⟩
end
theorem frames_but {B B' h h' : Heap} {C : Addr} : ∀ {l : List Env}, h.FunFrames B l → (∀ b o, B'.get? b = some o → B.get? b = some o) → (∀ b, b ≠ C → h'.get? b = h.get? b) → C ∉ frs l → h'.FunFrames B' l
  | [], _, _, _, _ => trivial
  | env :: l, hf, hB, hs, hC => by
    obtain ⟨hk, ⟨L, o, e1, e2, e3, e4⟩, hr⟩ := hf
    have hL : L ≠ C := fun z => hC (by rw [← z]; exact List.mem_filterMap.mpr ⟨env, List.mem_cons_self, e1⟩)
    refine ⟨hk, ⟨L, o, e1, ?_, by rw [hs L hL]; exact e3, e4⟩, frames_but hr hB hs fun hm => hC ?_⟩
    · cases q : B'.get? L with
      | none => rfl
      | some o' => rw [hB _ _ q] at e2; cases e2
    · obtain ⟨e, he, q⟩ := List.mem_filterMap.mp hm
      exact List.mem_filterMap.mpr ⟨e, List.mem_cons_of_mem _ he, q⟩
section
variable {M : Model} {A : Around} {E₁ : Value → Shared → Prop} {env : Env} {outer : List Env} {L a : Addr} {Z : Obj → Prop} {Q : Unit → Shared → Prop} {B : Heap} {s : Shared}
theorem note_air (hZ : HandSPX.Steady Z) (hfr : A.frames = some (env :: outer)) (hf : env.frame = some L) (x : Sky B (env :: outer) a Z L s.heap)
    (hQ : ∀ h', HandSPX.HeldZ B (env :: outer) a Z L h' → s.heap.UpToSlots h' → Q () { s with heap := h' }) : wpAny M A (noteFrame (.ref a) env) Q E₁ s := by
  rcases x with ⟨hB, hn, hl, oe, vs, he, hz, hd, h1⟩ | fl | hh
  · exact HandSPX.look_newZ hZ hfr hl hf he hB hn hd h1 hz hQ
  · exact HandSPX.looks_onZ hZ hfr hf fl hQ
  · exact HandSPX.againZ hf hh.2.2.2 (hQ s.heap hh (Heap.UpToSlots.refl _))
end
/-- a block's exception goes on in the def's own frame -/
theorem air_out {X : Cx} {s3 : Shared} {H3 : Hp} {scope : Scope} {ce : Env} {fp : List Addr} {E : XK} {pins : List (Addr × Obj)} {σ0 : L2.St} {u : Value} {s' : Shared}
    (hs : X.stack = X.env :: X.outer) (hf : X.env.frame = some X.env.locals) (tk : Takes X fun cls d _ H => E cls d H) (I3 : Inv X pins σ0 H3 s3) (f3 : ∀ b ∈ fp, FpOk X pins H3 b) (cL : ce.locals = s3.heap.objs.size) (cf : ce.frame = X.env.frame)
    (x : Flies (X.blk s3 H3 scope ce fp) E u s') : notedBy (model X.prog X.w) X.A ce (CompFails (model X.prog X.w) X.A X.xe ce) u s' := by
  obtain ⟨pins1, σ1, H1, s1, I1, a, B0, H', cls, d, rfl, fl0, hok0, ub0, na0, os0, ag0, hE0⟩ := x
  generalize hCC : s3.heap.objs.size = C at cL
  -- the block's own dict of names
  have I1X : Inv X pins σ0 H1 s1 := I3.call' (ch := fp) I1.os I1.base I1.hok I1.bare fun b hb => ⟨(f3 b hb).2.2.2.1, (f3 b hb).2.1, (f3 b hb).2.2.2.2.1, (f3 b hb).2.2.2.2.2⟩
  have nC1 : H1 C = none := by
    have z : H1 ce.locals = none := I1.free
    rw [cL] at z; exact z
  have fC : FpOk X pins H1 C := I3.fpOk (Nat.le_of_eq hCC) nC1
  have nfr : C ∉ frs X.stack := fun hm => by
    rcases List.mem_cons.mp (I3.stkSub C hm) with z | z
    · exact fC.2.1 z
    · exact fC.2.2.1 z
  obtain ⟨m, hm, _⟩ := I1.loc
  have hm : s1.heap.Ns ce.locals m := hm
  rw [cL] at hm
  obtain ⟨oC, es, ep, hoC, hdC, hrC⟩ := id hm
  have hoB : B0.get? C = some oC := ub0.keep C oC hoC nC1 nfr
  have hoS : s'.heap.get? C = some oC := fl0.1 C oC hoB
  have nC' : H' C = none := ub0.free C oC hoC nC1
  have ns' : s'.heap.Ns C m := ⟨oC, es, ep, hoS, hdC, hrC⟩
  have cx : L2.CX X.prog X.w X.stack H1 s1 (fun c d H9 => E c d H9 ∧ H9 C = none) (.ref a) s' := ⟨a, B0, H', cls, d, rfl, fl0, hok0, ub0, na0, os0, ag0, hE0, nC'⟩
  have air : XE X (fun c d _ H9 => E c d H9 ∧ H9 C = none) (.ref a) s' := XE.of_call (W := fun c d _ H9 => E c d H9 ∧ H9 C = none) I1X (fun _ _ _ h => h) cx
  obtain ⟨a', B, sI, pins2, σ2, H2, cls2, d2, ea, I2, nb, up, sky, na, os, ag, w, nC2⟩ := air
  obtain rfl : a = a' := Value.ref.inj ea
  have hfr : X.A.frames = some (X.env :: X.outer) := by rw [I3.ok.frames, hs]
  rw [hs] at sky
  show wpAny _ _ (noteFrame (.ref a) ce) _ _ s'
  rw [show noteFrame (.ref a) ce = noteFrame (.ref a) X.env from by unfold noteFrame PySem.frameOf; rw [cf]]
  refine note_air Zc.steady hfr hf sky fun h1 hh up1 => ?_
  have nsl : h1.Ns C m := ns'.upToSlots up1
  refine ⟨m, by rw [cL]; exact nsl, fun h2 m2 _ sb => ?_⟩
  rw [cL] at sb
  -- the ground without the block's dict
  obtain ⟨b1, b2, b3, oe, vs, T, oT, ts, t1, t2, t3, t4, t5, t6, t7, t8, t9⟩ := hh
  obtain ⟨oC1, _, _, hoC1, hdC1, _⟩ := id nsl
  have aC : a ≠ C := fun z => by
    rw [z, hoC1] at t1
    obtain rfl := Option.some.inj t1
    rw [hdC1] at t3; cases t3
  have TC : T ≠ C := fun z => by
    rw [z, hoC1] at t7
    obtain rfl := Option.some.inj t7
    rw [hdC1] at t8; cases t8
  have subB : ∀ b o, (PySem.W.hideAll B [C]).get? b = some o → B.get? b = some o ∧ b ≠ C := fun b o e => ⟨PySem.W.of_hideAll _ e, fun z => by
    rw [PySem.W.hideAll_none [C] (by simp [z])] at e; cases e⟩
  have none' : ∀ b, B.get? b = none → (PySem.W.hideAll B [C]).get? b = none := fun b e => by
    cases q : (PySem.W.hideAll B [C]).get? b with
    | none => rfl
    | some o => rw [(subB b o q).1] at e; cases e
  have held : HandSPX.HeldZ (PySem.W.hideAll B [C]) (X.env :: X.outer) a (Zc cls2 d2) X.env.locals h2 := by
    refine ⟨fun b o e => ?_, none' a b2, frames_but b3 (fun b o e => (subB b o e).1) sb.2 (by rw [← hs]; exact nfr), oe, vs, T, oT, ts, by rw [sb.2 a aC]; exact t1, t2, t3, t4, none' T t5, t6, by rw [sb.2 T TC]; exact t7, t8, t9⟩
    rw [sb.2 b (subB b o e).2]
    exact b1 b o (subB b o e).1
  unfold PySem.passOn
  refine wpAny_bind (wpAny_field (s := { s' with heap := h2 }) (by show h2.get? a = some oe; rw [sb.2 a aC]; exact t1) t3 t4 ?_)
  rw [if_neg (show ¬ ((Value.ref T == Value.none) = true) from by simp)]
  rw [cf, hf]
  refine wpAny_bind (HandSPX.setFlight_onZ (s := { s' with heap := h2 }) held fun h4 held4 up4 => ?_)
  refine wpAny_throw (tk _ _ ?_)
  have I2u : Inv X [] σ2 H2 sI := Inv.unpinned (pins := []) (pl := pins2) I2
  have I2t : Inv X [] σ2 H2 { sI with heap := PySem.W.hideAll sI.heap [C], toks := sI.toks } := I2u.turned (t' := sI.toks) (fun b o hb e => PySem.W.hideAll_get [C] e (by simp [hb])) nC2 fC.2.1 fC.2.2.2.1 fC.2.2.2.2.1 fun p hp => fC.2.2.2.2.2 p (by
    rw [List.append_nil] at hp
    exact List.mem_append_left _ hp)
  refine ⟨a, PySem.W.hideAll B [C], _, [], σ2, H2, cls2, d2, rfl, I2t, fun b o e hb => ?_, fun b o e hnf => ?_, .inr (.inr (by rw [hs]; exact held4)), na, os, ag, w⟩
  · have e1 := PySem.W.of_hideAll [C] e
    have hbC : b ≠ C := fun z => by
      have e : (PySem.W.hideAll sI.heap [C]).get? b = some o := e
      rw [PySem.W.hideAll_none [C] (by simp [z])] at e; cases e
    exact PySem.W.hideAll_get [C] (nb b o e1 hb) (by simp [hbC])
  · have e : (PySem.W.hideAll sI.heap [C]).get? b = some o := e
    have e1 := PySem.W.of_hideAll [C] e
    have hbC : b ≠ C := fun z => by
      rw [PySem.W.hideAll_none [C] (by simp [z])] at e; cases e
    obtain ⟨sl1, q1⟩ := (up.trans up1) b o e1 hnf
    obtain ⟨sl4, q4⟩ := up4 b _ ((sb.2 b hbC).trans q1) hnf
    exact ⟨sl4, q4⟩
/-- the comprehension with a block that may let out what E says -/
theorem lcE_core {X : Cx} {pins : List (Addr × Obj)} {s : Shared} {σ : L2.St} {H : Hp} {Q : VK} {E : XK} {el tg it0 : Expr} {ifs : List Expr} {scope : Scope} {own : List (Str × Nat)} {pos pos' : Pos} {wi : TI} {g : TG} {tt : TT} {te : TE} {use : Option (Value → Sem Unit)} {Qf : Value → Shared → Prop}
    (hs : X.stack = X.env :: X.outer) (hf : X.env.frame = some X.env.locals) (tk : Takes X fun cls d _ H => E cls d H) (hc : X.calm = true) (hN : X.N.Nodup) (I : Inv X pins σ H s) (hi : PI X tg it0 wi) (ok : BlkOk X.N X.env.scope scope own)
    (hg : ∀ (s : Shared) (H : Hp) (C : Addr) (cl : List (Str × Addr)) (fp : List Addr), PG (blkE X s H scope (compEnvC scope cl C X.env) fp E) tg g)
    (ht : ∀ (s : Shared) (H : Hp) (C : Addr) (cl : List (Str × Addr)) (fp : List Addr), PTs (blkE X s H scope (compEnvC scope cl C X.env) fp E) ifs tt)
    (he : ∀ (s : Shared) (H : Hp) (C : Addr) (cl : List (Str × Addr)) (fp : List Addr), PE (blkE X s H scope (compEnvC scope cl C X.env) fp E) el te) (hsi : ∀ x, foldedSetIterable it0 X.env x = pure x)
    (h : tLc wi g tt te (own.map (·.2)) σ H Q)
    (hend : ∀ D C s' m H', Inv X pins σ H' s' → Q (.ref D) H' → s'.heap.Ns C m → FpOk X pins H' C → ∀ ce : Env, ce.locals = C → compEnds (model X.prog X.w) X.A X.xe use Qf (.ref D) ce (.ok .next) s') :
    wpAny (model X.prog X.w) X.A (comprehension (.ListComp el [⟨tg, it0, ifs, 0⟩] scope pos) scope X.env pos' (newList []) false (eval it0 X.env) use) Qf X.xe s := by
  have caps : ∀ y ∈ scope.names, y.2 = .free → ∃ c, X.env.cells.lookup y.1 = some c := fun y hy e => I.ok.has _ (ok.free y hy e)
  refine comprehension_at (use := use) rfl hsi (closure_ok caps) ok.kind (fun y hy e => (ok.uniq y hy).trans (congrArg some e)) (thn (hi.run pins s σ H _ I h) fun xv s1 hx => thn hx fun itv s2 h2 => ?_)
  obtain ⟨it, fp, tn, J, H2, rfl, I2, T, st2, f2, q⟩ := h2
  refine wpAny_newObj_type (newEnv_comp ?_) (by show 0 ≤ sizeLine; decide)
  have hDn : H2 s2.heap.objs.size = none := I2.hok.fresh (Nat.le_refl _)
  obtain ⟨W, ⟨m0, w0⟩, turn⟩ := q _ hDn
  obtain ⟨s3, hs3⟩ : ∃ s3 : Shared, ({ s2 with heap := s2.heap.push { cls := .type "list", data := .seq ([] : List Value).toArray } } : Shared) = s3 := ⟨_, rfl⟩
  have h3 : s3.heap = s2.heap.push { cls := .type "list", data := .seq ([] : List Value).toArray } := by rw [← hs3]
  have hup : ∀ b o, s2.heap.get? b = some o → s3.heap.get? b = some o := fun b o e => by rw [h3]; exact Heap.get?_push_of_some _ e
  have I3 : Inv X pins σ (upd H2 s2.heap.objs.size (.lst [])) s3 := by
    rw [← hs3]
    exact I2.laid (t' := s2.toks) (fun b o e => Heap.get?_push_of_some _ e) (Nat.le_refl _) ⟨Nat.zero_le _, [], 0, .nil, Heap.get?_push_size _ rfl⟩
  have small : ∀ b ∈ fp, b < s2.heap.objs.size := fun b hb => by
    obtain ⟨o, e, _⟩ := T.obj _ _ st2 b hb
    exact Heap.lt_size e
  have f3 : ∀ b ∈ fp, FpOk X pins (upd H2 s2.heap.objs.size (.lst [])) b ∧ b < s3.heap.objs.size := fun b hb => by
    have lt := small b hb
    exact ⟨⟨(upd_ne (Nat.ne_of_lt lt)).trans (f2 b hb).1, (f2 b hb).2⟩, by rw [h3, Heap.size_push]; exact Nat.lt_succ_of_lt lt⟩
  have st3 : tn 0 s3.heap := T.keep _ _ _ st2 fun b _ o e => hup b o e
  have I4 := block_start I3 ok hN f3
  have cf : ∀ cl C, (compEnvC scope cl C X.env).frame = X.env.frame := fun _ _ => rfl
  rw [hs3]
  generalize hD : s2.heap.objs.size = D at hDn w0 turn I3 f3 I4 ⊢
  generalize hcl : cellsFrom (s3.heap.objs.size + 1) scope.names (cloFrom X.env.cells scope.names []) = cl at I4 ⊢
  generalize hH3 : upd H2 D (.lst []) = H3 at I3 f3 I4 w0
  have pg := hg s3 H3 s3.heap.objs.size cl fp
  have pt := ht s3 H3 s3.heap.objs.size cl fp
  have pe := he s3 H3 s3.heap.objs.size cl fp
  show codeAny _ _ (.compStart (.ListComp el [⟨tg, it0, ifs, 0⟩] scope pos) 0 (.ref it) (.ref D) (compEnvC scope cl s3.heap.objs.size X.env)) (compEnds (model X.prog X.w) X.A X.xe use Qf (.ref D) (compEnvC scope cl s3.heap.objs.size X.env)) _
  obtain ⟨ce, hce⟩ : ∃ ce, compEnvC scope cl s3.heap.objs.size X.env = ce := ⟨_, rfl⟩
  have cL : ce.locals = s3.heap.objs.size := by rw [← hce]; rfl
  have cF : ce.frame = X.env.frame := by rw [← hce]; rfl
  rw [hce] at I4 pg pt pe ⊢
  obtain ⟨s4, hs4⟩ : ∃ s4 : Shared, ({ s3 with heap := pushCells (s3.heap.push { cls := .type "dict", data := .dict #[] }) scope.names } : Shared) = s4 := ⟨_, rfl⟩
  rw [hs4] at I4 ⊢
  have st4 : tn 0 s4.heap := T.keep _ _ _ st3 fun b _ o e => by rw [← hs4]; exact pushCells_keeps _ _ _ _ (Heap.get?_push_of_some _ e)
  have out : ∀ u s', (blkE X s3 H3 scope ce fp E).xe u s' → notedBy (model X.prog X.w) X.A ce (fun e s1 => compEnds (model X.prog X.w) X.A X.xe use Qf (.ref D) ce (.error e) s1) u s' := fun u s' x => by
    have a := air_out (E := E) hs hf tk I3 (fun b hb => (f3 b hb).1) cL cF x
    cases use <;> exact a
  have still : ∀ {σ' : L2.St} {H' : Hp} {s' : Shared}, Inv (blkE X s3 H3 scope ce fp E) [] σ' H' s' → (∀ b ∈ fp, H' b = none) → ∀ b ∈ fp, FpOk (blkE X s3 H3 scope ce fp E) [] H' b := fun {σ' H' s'} I' hn b hb =>
    ⟨hn b hb, (I'.ok.exf b hb).1, I'.ok.exfs b hb, .inl hb, fun x c e => (I'.ok.exf b hb).2 x c e, fun p hp => nomatch hp⟩
  have go : ∀ {α : Type} {t : Sem α} {P P' : α → Shared → Prop} {s' : Shared}, wpAny (model X.prog X.w) X.A t P (blkE X s3 H3 scope ce fp E).xe s' → (∀ a s1, P a s1 → P' a s1) →
      wpAny (model X.prog X.w) X.A t P' (notedBy (model X.prog X.w) X.A ce fun e s1 => compEnds (model X.prog X.w) X.A X.xe use Qf (.ref D) ce (.error e) s1) s' := fun h k => wpAny_mono h k out
  have loop : codeAny (model X.prog X.w) X.A (.compLoop (.ListComp el [⟨tg, it0, ifs, 0⟩] scope pos) 0 (.ref it) (.ref D) ce) (compEnds (model X.prog X.w) X.A X.xe use Qf (.ref D) ce) s4 := by
    refine compLoop_any (fun n s' => ∃ i H', Inv (blkE X s3 H3 scope ce fp E) [] (wipe σ (own.map (·.2))) H' s' ∧ tn i s'.heap ∧ (∀ b ∈ fp, H' b = none) ∧ W i n H') ?_ m0 ⟨0, H3, inE I4, st4, fun b hb => (f3 b hb).1.1, w0⟩
    rintro n s5 ⟨i, H5, I5, st5, n5, w5⟩
    rcases turn i n H5 w5 with ⟨stop, qq⟩ | ⟨goes, Nx, hNx, step⟩
    · refine go (T.done (blkE X s3 H3 scope ce fp E) rfl rfl rfl hc i [] s5 _ H5 _ I5 (still I5 n5) st5 stop) fun r s6 ⟨hr, I6⟩ => ?_
      subst hr
      have I7 : Inv X pins σ H5 s6 := I3.call' (ch := fp) I6.os I6.base I6.hok I6.bare fun b hb => let z := (f3 b hb).1; ⟨z.2.2.2.1, z.2.1, z.2.2.2.2.1, z.2.2.2.2.2⟩
      obtain ⟨m, hn, _⟩ := I6.loc
      have hn : s6.heap.Ns ce.locals m := hn
      have hfree : H5 ce.locals = none := I6.free
      rw [cL] at hn hfree
      exact hend D s3.heap.objs.size s6 m H5 I7 qq hn (I3.fpOk (Nat.le_refl _) hfree) ce cL
    · refine go (T.item (blkE X s3 H3 scope ce fp E) rfl rfl rfl hc i [] s5 _ H5 _ I5 (still I5 n5) st5 goes) fun r s6 ⟨u, hr, h6⟩ => ?_
      subst hr
      refine go h6 fun _ s7 ⟨x, H7, I7, r7, y7, st7, n7⟩ => ?_
      refine go (pg.run _ s7 _ H7 x u _ (I7.pinned (still I7 n7) (T.obj _ _ st7)) r7 (step x H7 y7)) fun _ s8 ⟨σ8, H8, I8, hw8, q8⟩ => ?_
      refine go (pt.run _ s8 σ8 H8 _ I8 q8) fun b s9 ⟨H9, I9, q9⟩ => ?_
      have back : ∀ {s' : Shared} {H' : Hp}, Inv (blkE X s3 H3 scope ce fp E) ([] ++ pinsAt fp s7.heap) σ8 H' s' → Nx H' → ∃ m, m < n ∧ ∃ i H', Inv (blkE X s3 H3 scope ce fp E) [] (wipe σ (own.map (·.2))) H' s' ∧ tn i s'.heap ∧ (∀ b ∈ fp, H' b = none) ∧ W i m H' := fun {s' H'} I' nx => by
        obtain ⟨m', lt, w'⟩ := hNx H' nx
        have pinned : ∀ b ∈ fp, ∀ o, s7.heap.get? b = some o → s'.heap.get? b = some o ∧ H' b = none := fun b hb o e => by
          have z := I'.pin (b, o) (List.mem_append_right _ (List.mem_append_right _ (mem_pinsAt hb e)))
          exact ⟨z.1, z.2.1⟩
        have len8 : (wipe σ (own.map (·.2))).length = σ8.length := (congrArg List.length hw8).symm.trans (wipe_length _ _)
        refine ⟨m', lt, i + 1, H', (Inv.unpinned (pins := []) I').weak len8 fun j v e => (wipe_some (by rw [← hw8] at e; exact e)).1, T.keep _ _ _ st7 fun b hb o e => (pinned b hb o e).1, fun b hb => ?_, w'⟩
        obtain ⟨o, e, _⟩ := T.obj _ _ st7 b hb
        exact (pinned b hb o e).2
      cases b with
      | false => exact back I9 q9
      | true =>
        refine go (pe.run _ s9 σ8 H9 _ I9 q9) fun z s10 ⟨yv, H10, I10, r10, acc, hD10, hz10, nx⟩ => ?_
        exact app_ok (X := blkE X s3 H3 scope ce fp E) I10 hD10 hz10 r10 fun s11 I11 => back I11 nx
  exact codeAny_compStart_list loop (T.self X.A 0 _ _ _ st4 loop)
section
variable {X : Cx} {E : XK}
/-- [..] as a value, what the element lets out leaves the def -/
theorem pe_lcE {el tg it0 : Expr} {ifs : List Expr} {scope : Scope} {own : List (Str × Nat)} {pos : Pos} {wi : TI} {g : TG} {tt : TT} {te : TE} (hs : X.stack = X.env :: X.outer) (hf : X.env.frame = some X.env.locals) (tk : Takes X fun cls d _ H => E cls d H)
    (hc : X.calm = true) (hN : X.N.Nodup) (hi : PI X tg it0 wi) (ok : BlkOk X.N X.env.scope scope own)
    (hg : ∀ (s : Shared) (H : Hp) (C : Addr) (cl : List (Str × Addr)) (fp : List Addr), PG (blkE X s H scope (compEnvC scope cl C X.env) fp E) tg g)
    (ht : ∀ (s : Shared) (H : Hp) (C : Addr) (cl : List (Str × Addr)) (fp : List Addr), PTs (blkE X s H scope (compEnvC scope cl C X.env) fp E) ifs tt)
    (he : ∀ (s : Shared) (H : Hp) (C : Addr) (cl : List (Str × Addr)) (fp : List Addr), PE (blkE X s H scope (compEnvC scope cl C X.env) fp E) el te) (hsi : ∀ x, foldedSetIterable it0 X.env x = pure x := by intro _; rfl) :
    PE X (.ListComp el [⟨tg, it0, ifs, 0⟩] scope pos) (tLc wi g tt te (own.map (·.2))) := by
  refine ⟨fun pins s σ H Q I h => ?_⟩
  rw [eval_ListComp]
  refine lcE_core hs hf tk hc hN I hi ok hg ht he hsi h fun D C s' m H' I' q hn f ce ec => ⟨m, by rw [ec]; exact hn, fun h'' sb => ?_⟩
  rw [ec] at sb
  exact ⟨.ref D, H', I'.turned (t' := s'.toks) (fun b o hb e => (sb.2 b hb).trans e) f.1 f.2.1 f.2.2.2.1 f.2.2.2.2.1 f.2.2.2.2.2, rfl, q⟩
/-- x = [..], x a local name -/
theorem ps_setLcE {i : Nat} {y : Str} {py : Pos} {el tg it0 : Expr} {ifs : List Expr} {scope : Scope} {own : List (Str × Nat)} {pos spos : Pos} {wi : TI} {g : TG} {tt : TT} {te : TE} (hs : X.stack = X.env :: X.outer) (hf : X.env.frame = some X.env.locals) (tk : Takes X fun cls d _ H => E cls d H)
    (hc : X.calm = true) (hN : X.N.Nodup) (hy : X.N[i]? = some y) (hyl : X.env.scope.names.lookup y = some .local)
    (hsw : swapsWith (.ListComp el [⟨tg, it0, ifs, 0⟩] scope pos) (some (.Name y py)) spos.line X.env = pure true) (hi : PI X tg it0 wi) (ok : BlkOk X.N X.env.scope scope own)
    (hg : ∀ (s : Shared) (H : Hp) (C : Addr) (cl : List (Str × Addr)) (fp : List Addr), PG (blkE X s H scope (compEnvC scope cl C X.env) fp E) tg g)
    (ht : ∀ (s : Shared) (H : Hp) (C : Addr) (cl : List (Str × Addr)) (fp : List Addr), PTs (blkE X s H scope (compEnvC scope cl C X.env) fp E) ifs tt)
    (he : ∀ (s : Shared) (H : Hp) (C : Addr) (cl : List (Str × Addr)) (fp : List Addr), PE (blkE X s H scope (compEnvC scope cl C X.env) fp E) el te) (hsi : ∀ x, foldedSetIterable it0 X.env x = pure x := by intro _; rfl) :
    PS X (.Assign [.Name y py] (.ListComp el [⟨tg, it0, ifs, 0⟩] scope pos) spos) (tAsg (tLc wi g tt te (own.map (·.2))) (gName i)) := by
  refine ⟨fun pins s σ H D I h => ?_⟩
  rw [exec_Assign_Name_used _ _ _ _ hsw]
  refine wpAny_bind (wpAny_standAt (wpAny_bind ?_))
  have h : tLc wi g tt te (own.map (·.2)) σ H (fun x H1 => gName i x σ H1 D.nx) := h
  refine wpAny_bind (thn (lcE_core (Qf := fun _ s' => SP X pins D .next s') (use := some (assign (.Name y py) X.env)) hs hf tk hc hN I hi ok hg ht he hsi h fun L C s' m H' I' q hn f ce ec => ?_) fun _ s' hq => wpAny_pure (wpAny_pure hq))
  refine wpAny_assign_Name (store_ok2 (v := V.ref L) I' hN hy (.inl hyl) rfl (fun s2 I2 ⟨a, sb, ha⟩ => ?_) (.inr hyl))
  have hCa : C ≠ a := by
    rcases ha with z | z
    · rw [z]; exact f.2.1
    · exact fun e => f.2.2.2.2.1 y a z e.symm
  refine ⟨m, by rw [ec]; exact hn.sameBut sb hCa, fun h9 sb9 => ?_⟩
  rw [ec] at sb9
  exact ⟨_, H', I2.turned (t' := s2.toks) (fun b o hb e => (sb9.2 b hb).trans e) f.1 f.2.1 f.2.2.2.1 f.2.2.2.2.1 f.2.2.2.2.2, q⟩
end
end Mur
/-! A table of the module's top with texts as keys and ints as values: d.get(text). -/
namespace Mur
open PySem hiding start
open PySem.Spec L2
open PyProof.Rows hiding St
def entOf (e : DictEntry) : Option (Str × Int × Int) := match e.key with
  | .str x _ => (match e.val with
    | .int i _ => some (x, e.hash, i)
    | _ => none)
  | _ => none
def tabIn (P : Params) (kvs : List (Str × Int)) : List (Option (Str × Int × Int)) := kvs.map fun q => some (q.1, PyData.keyHash P q.1, q.2)
def tabW (K : PySem.W.Frag) (a : Addr) : Option (List (Option (Str × Int × Int))) := match K.lookup a with
  | some ⟨.type c, none, .dict es _, sl⟩ => (match decide (c = "dict") && (sl.isEmpty && !(a == sysModules)) with
    | true => some (es.toList.map entOf)
    | false => none)
  | _ => none
def tabV (kvs : List (Str × Int)) (z : Str) : V := match kvs.lookup z with
  | some i => .int i
  | none => .non
/-- at d: a written table -/
def Tabl (K : PySem.W.Frag) (w : World) (d : Addr) (kvs : List (Str × Int)) : Prop := ∃ es n, KDict K w d es n ∧ ∀ z : Str, ∃ r : Option Value, PySem.W.nsIn K d z = some r ∧ RelV (tabV kvs z) (r.getD .none)
theorem ent_of {e : DictEntry} {x : Str} {h i : Int} (q : entOf e = some (x, h, i)) : (∃ t, e.key = .str x t) ∧ (∃ t, e.val = .int i t) ∧ e.hash = h := by
  unfold entOf at q
  cases hk : e.key with
  | str y t =>
    rw [hk] at q
    cases hv : e.val with
    | int j u =>
      rw [hv] at q
      have q : some (y, e.hash, j) = some (x, h, i) := q
      injection q with q
      injection q with q1 q2
      injection q2 with q2 q3
      exact ⟨⟨t, by rw [q1]⟩, ⟨u, by rw [q3]⟩, q2⟩
    | _ => rw [hv] at q; cases q
  | _ => rw [hk] at q; cases q
theorem tab_lit {P : Params} : ∀ {l : List DictEntry} {kvs : List (Str × Int)}, l.map entOf = tabIn P kvs → PySem.W.KeysLit P l
  | [], _, _ => trivial
  | e :: r, [], h => by cases h
  | e :: r, kv :: kvs, h => by
    have h1 : entOf e :: r.map entOf = some (kv.1, PyData.keyHash P kv.1, kv.2) :: tabIn P kvs := h
    injection h1 with h2 h3
    obtain ⟨⟨t, e1⟩, _, e3⟩ := ent_of h2
    exact ⟨⟨kv.1, t, e1, e3⟩, tab_lit h3⟩
theorem tab_find {P : Params} (z : Str) : ∀ {l : List DictEntry} {kvs : List (Str × Int)}, l.map entOf = tabIn P kvs →
    (∃ e i t, l.find? (·.key.isStr z) = some e ∧ e.val = .int i t ∧ kvs.lookup z = some i) ∨ (l.find? (·.key.isStr z) = none ∧ l.any (·.refKey) = false ∧ kvs.lookup z = none)
  | [], [], _ => .inr ⟨rfl, rfl, rfl⟩
  | [], _ :: _, h => by cases h
  | e :: r, [], h => by cases h
  | e :: r, kv :: kvs, h => by
    have h1 : entOf e :: r.map entOf = some (kv.1, PyData.keyHash P kv.1, kv.2) :: tabIn P kvs := h
    injection h1 with h2 h3
    obtain ⟨⟨t, e1⟩, ⟨u, e2⟩, e3⟩ := ent_of h2
    have ik : e.key.isStr z = decide (kv.1 = z) := by
      rw [e1]
      by_cases q : kv.1 = z
      · subst q
        rw [decide_eq_true rfl]
        exact beq_self_eq_true _
      · rw [decide_eq_false q]
        exact beq_eq_false_iff_ne.mpr q
    by_cases q : kv.1 = z
    · subst q
      exact .inl ⟨e, kv.2, u, by rw [List.find?_cons, ik, decide_eq_true rfl], e2, by rw [List.lookup_cons]; simp⟩
    · have nb : (z == kv.1) = false := by simpa using fun x => q x.symm
      have e5 : (kv :: kvs).lookup z = kvs.lookup z := by rw [List.lookup_cons, nb]
      have e6 : (e :: r).find? (·.key.isStr z) = r.find? (·.key.isStr z) := by rw [List.find?_cons, ik, decide_eq_false q]
      rw [e5, e6]
      rcases tab_find z h3 with c | ⟨c1, c2, c3⟩
      · exact .inl c
      · refine .inr ⟨c1, ?_, c3⟩
        rw [List.any_cons, c2, Bool.or_false]
        unfold DictEntry.refKey
        rw [e1]
theorem tabW_ok {K : PySem.W.Frag} {w : World} {a : Addr} {kvs : List (Str × Int)} (h : tabW K a = some (tabIn w.params kvs)) : Tabl K w a kvs := by
  unfold tabW at h
  cases q : K.lookup a with
  | none => rw [q] at h; cases h
  | some o =>
    obtain ⟨oc, od, dt, osl⟩ := o
    rw [q] at h
    cases oc with
    | type c =>
      cases od with
      | none =>
        cases dt with
        | dict es n =>
          have h1 : (match decide (c = "dict") && (osl.isEmpty && !(a == sysModules)) with
            | true => some (es.toList.map entOf)
            | false => none) = some (tabIn w.params kvs) := h
          cases z : decide (c = "dict") && (osl.isEmpty && !(a == sysModules)) with
          | false => rw [z] at h1; cases h1
          | true =>
            rw [z] at h1
            obtain ⟨z1, z2⟩ := He.ba z
            obtain ⟨z3, z4⟩ := He.ba z2
            have e1 : c = "dict" := of_decide_eq_true z1
            have e2 : osl = #[] := Array.isEmpty_iff.mp z3
            have e3 : (a == sysModules) = false := by
              cases y : a == sysModules with
              | false => rfl
              | true => rw [y] at z4; cases z4
            subst e1 e2
            have hl := Option.some.inj h1
            refine ⟨es, n, ⟨q, tab_lit hl, e3⟩, fun z => ?_⟩
            have hn : PySem.W.nsIn K a z = (match es.toList.find? (·.key.isStr z) with
              | some e => some (some e.val)
              | none => if es.toList.any (·.refKey) then none else some none) := by
              unfold PySem.W.nsIn
              rw [q]
              rfl
            rcases tab_find z hl with ⟨e, i, t, c1, c2, c3⟩ | ⟨c1, c2, c3⟩
            · refine ⟨some e.val, by rw [hn, c1], ?_⟩
              unfold tabV
              rw [c3, Option.getD_some, c2]
              exact ⟨t, rfl⟩
            · refine ⟨none, by rw [hn, c1, c2]; rfl, ?_⟩
              unfold tabV
              rw [c3]
              rfl
        | _ => cases h
      | some b => cases dt <;> cases h
    | _ => cases od <;> cases dt <;> cases h
/-- d.get(text) -/
def tKGet (K : PySem.W.Frag) (w : World) (td ty : TE) : TE := fun σ H Q => td σ H fun x H1 => ∃ d kvs, x = .ref d ∧ Tabl K w d kvs ∧ ty σ H1 fun y H2 => ∃ z, y = .str z ∧ Q (tabV kvs z) H2
section
variable {X : Cx} {o e f : Expr} {apos cpos : Pos} {td ty tx : TE}
theorem pe_kget1 (K : PySem.W.Frag) (w : World) (ho : PE X o td) (he : PE X e ty) (m : M1 X o "get" apos e cpos) (hK : X.K = K := by rfl) (hw : X.w = w := by rfl) : PE X (.Call (.Attribute o "get" apos) [e] [] cpos) (tKGet K w td ty) := by
  subst hK hw
  refine ⟨fun pins s σ H Q I h => ?_⟩
  refine wpAny_Call_method m.base m.few m.line PySem.F.plainAttrs_dict PySem.F.slot_dict_get PySem.F.type_dict_get (thn (ho.run pins s σ H _ I h) fun u s1 ⟨x, H1, I1, rx, d, kvs, ex, tb, q1⟩ => ?_)
  subst ex
  obtain rfl : u = Value.ref d := rx
  obtain ⟨es, n, D, all⟩ := tb
  refine ⟨kd_type D I1, fun b hb => ?_, ?_⟩
  · cases hb
    exact ⟨_, I1.kIn _ _ D.at_, rfl⟩
  rw [m.trees]
  refine Calls.callWith_builtin rfl (Calls.evalArgs_plain (Calls.spliced_cons (thn (he.run pins s1 σ H1 _ I1 q1) fun iv s2 ⟨y, H2, I2, ry, z, ey, q2⟩ => Calls.spliced_nil ?_)))
  subst ey
  obtain ⟨t, rfl⟩ := (show ∃ t, iv = Value.str z t from ry)
  obtain ⟨r, hr, rel⟩ := all z
  have hm := PySem.W.mapOf_K (prog := X.prog) (w := X.w) I2.kIn D.at_ D.lit
  refine call_meetsIn PySem.F.slot_dict_get hm.typeIs PySem.F.entry_dict_get (PySem.F.args_dict_get_2 _ _) (meets_dict_get (PySem.strKind X.prog X.w) d (PySem.strKind_is X.prog X.w z t) D.low) ⟨_, hm, ?_⟩
  have ef : PySem.findBy Value.isStrOf es z = r := PySem.W.find_K D.at_ hr
  show EP X pins σ Q ((PySem.findBy Value.isStrOf es z).getD .none) _
  rw [ef]
  exact ⟨_, H2, I2.tok _, rel, q2⟩
end
theorem z_kget {K : PySem.W.Frag} {w : World} {td ty : TE} {σ : L2.St} {H : Hp} {Q : VK} (h : td σ H fun x H1 => ∃ d kvs, x = .ref d ∧ Tabl K w d kvs ∧ ty σ H1 fun y H2 => ∃ z, y = .str z ∧ Q (tabV kvs z) H2) : tKGet K w td ty σ H Q := h
/-! the head that looks at the table, too -/
abbrev AlV : Type := He.AlD × Option (List (Option (Str × Int × Int)))
section
variable (n : Nat) (fa : List He.Fa) (fn : List He.DefD) (x : Str) (kvs : List (Str × Int))
def obsV (K : PySem.W.Frag) : AlV := (He.obsD fa fn K, tabW K (He.ga K x))
def valVw (w : World) : AlV := (He.valD fn, some (tabIn w.params kvs))
def obsVG (g : Addr → Option Obj) : AlV := obsV fa fn x (He.frG g (He.asD g n))
def SaysV (w : World) (K : PySem.W.Frag) : Prop := obsV fa fn x K = valVw fn kvs w
def hookV : PySem.W.Hook where
  α := AlV
  obs := fun s => obsVG n fa fn x s.heap.get?
  val := fun w => valVw fn kvs w
  says := fun w h => ∃ K : PySem.W.Frag, K.In h ∧ SaysV fa fn x kvs w K
  of := fun _ _ e => ⟨_, He.frG_in, e⟩
  keeps := fun _ _ _ ⟨K, hK, c⟩ k => ⟨K, PySem.W.Frag.In.keeps hK k, c⟩
end
theorem obsVG_eq {n : Nat} {fa : List He.Fa} {fn : List He.DefD} {x : Str} {kvs : List (Str × Int)} {g : Addr → Option Obj} {s : Shared} (h : ∀ a, g a = s.heap.get? a) : obsVG n fa fn x g = (hookV n fa fn x kvs).obs s := by
  have e : g = s.heap.get? := funext h
  rw [e] <;> rfl
theorem SaysV.d {fa : List He.Fa} {fn : List He.DefD} {x : Str} {kvs : List (Str × Int)} {w : World} {K : PySem.W.Frag} (c : SaysV fa fn x kvs w K) : He.SaysD fa fn K := congrArg (fun z : AlV => z.1) c
theorem SaysV.t {fa : List He.Fa} {fn : List He.DefD} {x : Str} {kvs : List (Str × Int)} {w : World} {K : PySem.W.Frag} (c : SaysV fa fn x kvs w K) : Tabl K w (He.ga K x) kvs := tabW_ok (congrArg (fun z : AlV => z.2) c)
/-! more readings step by step -/
section
variable {K : PySem.W.Frag} {σ : L2.St} {H : Hp} {Q : VK} {a b : Addr} {xs ys : List V}
theorem cutV_all {xs : List V} {lo hi : Option Int} (h : HT.sIx xs.length 0 lo = 0 ∧ HT.sIx xs.length xs.length hi = xs.length) : cutV xs lo hi = xs := by
  unfold cutV
  rw [h.1, h.2, List.drop_zero, Nat.sub_zero, List.take_of_length_le (Nat.le_refl _)]
/-- a slice of a tuple -/
theorem z_slT {lo hi : Option Int} (h : H a = some (.tup xs)) (e : cutV xs lo hi = ys) (k : ∀ p H', Same H H' → H' p = some (.tup ys) → Q (.ref p) H') : rSlA K (.ref a) lo hi H Q :=
  ⟨a, xs, rfl, SqT.of h, fun w => k a H (Same.refl H) (by rw [← e, cutV_all w]; exact h), fun _ p hp => k p _ (Same.new hp) (by rw [e]; exact upd_same)⟩
/-- tuple + tuple -/
theorem z_catT (h1 : H a = some (.tup xs)) (h2 : H b = some (.tup ys)) (c : xs.length + ys.length ≤ sizeLine) (k : ∀ p H', Same H H' → H' p = some (.tup (xs ++ ys)) → Q (.ref p) H') : rAddU K (.ref a) (.ref b) H Q :=
  .inr (.inr (.inr ⟨a, b, xs, ys, rfl, rfl, SqT.of h1, SqT.of h2, c, fun e => k b H (Same.refl H) (by rw [e, List.nil_append]; exact h2), fun _ e => k a H (Same.refl H) (by rw [e, List.append_nil]; exact h1), fun _ _ p hp => k p _ (Same.new hp) upd_same⟩))
theorem z_dpop {td ty : TE} (h : td σ H fun x H1 => ∃ a, x = .ref a ∧ IsD H1 a ∧ ty σ H1 fun y H2 => ∃ kvs k v, H2 a = some (.dK kvs) ∧ y = kV k ∧ valV kvs k = some v ∧ Q v (upd H2 a (.dK (dropK kvs k)))) : tDPop1 td ty σ H Q := h
theorem z_dget1 {td ty : TE} (h : td σ H fun x H1 => ∃ a, x = .ref a ∧ IsD H1 a ∧ ty σ H1 fun y H2 => ∃ o, DGet H2 a y o ∧ Q (o.getD .non) H2) : tDGet1 td ty σ H Q := h
theorem z_chainI {i j : Int} {b : Bool} {R : Bool → Prop} (e : decide (i < j) = b) (k : R b) : R (decide (i < j)) := by rw [e]; exact k
end
/-- two ways of an if that meet again -/
theorem z_joinIf {tt : TT} {ts tu : TS} {D : Ends} {σ : L2.St} {H : Hp} {R : L2.St → Hp → Prop} (h : ∀ D' : Ends, (∀ σ' H', R σ' H' → D'.nx σ' H') → (∀ v H', D.rt v H' → D'.rt v H') → tIfS tt ts tu D' σ H) (k : ∀ σ' H', R σ' H' → D.nx σ' H') : tIfS tt ts tu D σ H := h D k fun _ _ h => h
theorem k_revL {X : Cx} {e : Expr} {te : TE} {k : Nat} {p1 p2 p3 pos : Pos} (K : PySem.W.Frag) (he : PE X e te) (hK : X.K = K := by rfl) : PE X (.Subscript e (.Slice none none (some (.UnaryOp .USub (.Constant (.int 1) k p1) p2)) p3) pos) (tRevL K te) := by subst hK; exact pe_revL he
def rRevL (K : PySem.W.Frag) : V → Hp → VK → Prop := fun x H1 Q => ∃ a xs, x = .ref a ∧ SqL K H1 a xs ∧ ∀ p, H1 p = none → Q (.ref p) (upd H1 p (.lst xs.reverse))
theorem z_revL {K : PySem.W.Frag} {σ : L2.St} {H : Hp} {Q : VK} {te : TE} (h : te σ H fun x H1 => rRevL K x H1 Q) : tRevL K te σ H Q := h
theorem z_revLR {K : PySem.W.Frag} {H : Hp} {Q : VK} {a : Addr} {xs : List V} (h : SqL K H a xs) (k : ∀ p, H p = none → Q (.ref p) (upd H p (.lst xs.reverse))) : rRevL K (.ref a) H Q := ⟨a, xs, rfl, h, k⟩
/-- equal data or not -/
theorem z_eqDv {K : PySem.W.Frag} {H : Hp} {Q : VK} {x y : V} {d e : PyData} (hx : Dv H x d) (hy : Dv H y e) (sd : SeqAt.shaped d = true) (se : SeqAt.shaped e = true) (k : Q (.bl (PyData.eqv d e)) H) : rEqU K x y H Q := .inr ⟨d, e, hx.dp, hy.dp, sd, se, k⟩
theorem z_neDv {K : PySem.W.Frag} {H : Hp} {Q : VK} {x y : V} {d e : PyData} (hx : Dv H x d) (hy : Dv H y e) (sd : SeqAt.shaped d = true) (se : SeqAt.shaped e = true) (k : Q (.bl (!PyData.eqv d e)) H) : rNeU K x y H Q := .inr ⟨d, e, hx.dp, hy.dp, sd, se, k⟩
end Mur
/-! The shop in the heap. -/
namespace Mur
open PySem hiding start
open PySem.Spec L2
open PyProof.Rows hiding St
structure Rod where
  n : Int
  f : Int
  t : Int
  l : Int
  deriving DecidableEq
inductive Deed where
  | gather (c t l : Int)
  | pull (r k : Int)
  | bundle (a b c d : Int)
  | turn (r t : Int)
  | cut (r l : Int)
  | fuse (a b : Int)
  | sell (r : Int)
  | waste (r : Int)
def Deed.name : Deed → Str
  | .gather _ _ _ => "gather"
  | .pull _ _ => "pull"
  | .bundle _ _ _ _ => "bundle"
  | .turn _ _ => "turn"
  | .cut _ _ => "cut"
  | .fuse _ _ => "fuse"
  | .sell _ => "sell"
  | .waste _ => "waste"
def Deed.args : Deed → List Int
  | .gather c t l => [c, t, l]
  | .pull r k => [r, k]
  | .bundle a b c d => [a, b, c, d]
  | .turn r t => [r, t]
  | .cut r l => [r, l]
  | .fuse a b => [a, b]
  | .sell r => [r]
  | .waste r => [r]
def Deed.vals (d : Deed) : List V := .str d.name :: d.args.map V.int
def Deed.data (d : Deed) : PyData := .tuple (.str d.name :: d.args.map PyData.int)
structure SS where
  rods : List Rod
  com : Int
  a0 : List Int
  a1 : List Int
  a2 : List Int
  bun : List Int
  deeds : List Deed
structure SP where
  d : Addr
  am : Addr
  l0 : Addr
  l1 : Addr
  l2 : Addr
  b : Addr
  dd : Addr
def SP.muts (q : SP) : List Addr := [q.d, q.l0, q.l1, q.l2, q.b, q.dd]
structure SB where
  dx : Addr
  q : SP
  lb : Addr
  la : Addr
  qs : List SP
  rs : List SP
  vs : List V
  ws : List V
def SB.muts (s : Addr) (B : SB) : List Addr := s :: B.lb :: B.la :: (B.q.muts ++ (B.qs.flatMap SP.muts ++ B.rs.flatMap SP.muts))
/-! ### rods in a dict -/
inductive RodsIn (H : Hp) : List (Key × V) → List Rod → Prop
  | nil : RodsIn H [] []
  | cons {a : Addr} {kvs : List (Key × V)} {r : Rod} {rs : List Rod} : H a = some (.tup [.int r.f, .int r.t, .int r.l]) → RodsIn H kvs rs → RodsIn H ((.inl r.n, .ref a) :: kvs) (r :: rs)
def findR (rs : List Rod) (n : Int) : Option Rod := rs.find? fun r => decide (r.n = n)
def setR (rs : List Rod) (r : Rod) : List Rod := rs.map fun x => if x.n = r.n then r else x
def dropR (rs : List Rod) (n : Int) : List Rod := rs.filter fun r => decide (r.n ≠ n)
theorem findR_n {rs : List Rod} {n : Int} {r : Rod} (h : findR rs n = some r) : r.n = n ∧ r ∈ rs := ⟨by simpa using List.find?_some h, List.mem_of_find?_eq_some h⟩
section
variable {H H' : Hp} {kvs : List (Key × V)} {rs : List Rod}
theorem RodsIn.stay (k : ∀ a xs, H a = some (.tup xs) → H' a = some (.tup xs)) (h : RodsIn H kvs rs) : RodsIn H' kvs rs := by
  induction h with
  | nil => exact .nil
  | cons e _ ih => exact .cons (k _ _ e) ih
theorem RodsIn.len (h : RodsIn H kvs rs) : kvs.length = rs.length := by
  induction h with
  | nil => rfl
  | cons _ _ ih => simp [ih]
theorem RodsIn.keys (h : RodsIn H kvs rs) : kvs.map (·.1) = (rs.map (·.n)).map Sum.inl := by
  induction h with
  | nil => rfl
  | cons _ _ ih => simp [ih]
theorem RodsIn.find (h : RodsIn H kvs rs) (n : Int) : (∃ r a, findR rs n = some r ∧ valV kvs (.inl n) = some (.ref a) ∧ H a = some (.tup [.int r.f, .int r.t, .int r.l]) ∧ r.n = n) ∨ (findR rs n = none ∧ valV kvs (.inl n) = none) := by
  induction h with
  | nil => exact .inr ⟨rfl, rfl⟩
  | @cons a kvs r rs e _ ih =>
    by_cases c : r.n = n
    · exact .inl ⟨r, a, by simp [findR, c], valV_pos (p := (Sum.inl r.n, V.ref a)) (by simp [c]), e, c⟩
    · have e1 : findR (r :: rs) n = findR rs n := by simp [findR, c]
      have e2 : valV (((.inl r.n, .ref a) : Key × V) :: kvs) (.inl n) = valV kvs (.inl n) := valV_neg (p := (Sum.inl r.n, V.ref a)) (by simp [c])
      rw [e1, e2]; exact ih
theorem RodsIn.snoc {a : Addr} {r : Rod} (h : RodsIn H kvs rs) (e : H a = some (.tup [.int r.f, .int r.t, .int r.l])) : RodsIn H (kvs ++ [(.inl r.n, .ref a)]) (rs ++ [r]) := by
  induction h with
  | nil => exact .cons e .nil
  | cons e1 _ ih => exact .cons e1 ih
theorem RodsIn.put {a : Addr} {r : Rod} (h : RodsIn H kvs rs) (e : H a = some (.tup [.int r.f, .int r.t, .int r.l])) (hin : (findR rs r.n).isSome = true) : RodsIn H (putK kvs (.inl r.n) (.ref a)) (setR rs r) := by
  have hany : (kvs.any fun kv => decide (kv.1 = .inl r.n)) = true := by
    rw [valV_any]
    rcases h.find r.n with ⟨_, _, _, e2, _⟩ | ⟨e1, _⟩
    · rw [e2]; rfl
    · rw [e1] at hin; cases hin
  unfold putK
  rw [if_pos hany]
  clear hany hin
  induction h with
  | nil => exact .nil
  | @cons b kvs x rs e1 _ ih =>
    simp only [List.map_cons, setR] at ih ⊢
    by_cases c : x.n = r.n
    · rw [if_pos (by rw [c]), if_pos c]
      have : ((Sum.inl x.n, V.ref a) : Key × V) = (Sum.inl r.n, V.ref a) := by rw [c]
      rw [this]
      exact .cons e ih
    · rw [if_neg (by simpa using c), if_neg c]
      exact .cons e1 ih
theorem RodsIn.add {a : Addr} {r : Rod} (h : RodsIn H kvs rs) (e : H a = some (.tup [.int r.f, .int r.t, .int r.l])) (hin : findR rs r.n = none) : RodsIn H (putK kvs (.inl r.n) (.ref a)) (rs ++ [r]) := by
  rcases h.find r.n with ⟨_, _, e1, _⟩ | ⟨_, e2⟩
  · rw [e1] at hin; cases hin
  · rw [putK_new _ e2]; exact h.snoc e
theorem RodsIn.drop (h : RodsIn H kvs rs) (n : Int) : RodsIn H (dropK kvs (.inl n)) (dropR rs n) := by
  induction h with
  | nil => exact .nil
  | @cons b kvs x rs e1 _ ih =>
    unfold dropK dropR at ih ⊢
    by_cases c : x.n = n
    · rw [List.filter_cons_of_neg (by simp [c]), List.filter_cons_of_neg (by simp [c])]; exact ih
    · rw [List.filter_cons_of_pos (by simpa using c), List.filter_cons_of_pos (by simpa using c)]
      exact .cons e1 ih
end
/-! ### stands -/
structure SnapAt (H : Hp) (q : SP) (st : SS) : Prop where
  d : ∃ kvs, H q.d = some (.dK kvs) ∧ RodsIn H kvs st.rods
  am : H q.am = some (.tup [.ref q.l0, .ref q.l1, .ref q.l2])
  l0 : H q.l0 = some (.lst (st.a0.map V.int))
  l1 : H q.l1 = some (.lst (st.a1.map V.int))
  l2 : H q.l2 = some (.lst (st.a2.map V.int))
  b : H q.b = some (.lst (st.bun.map V.int))
  dd : ∃ vs, H q.dd = some (.lst vs) ∧ DvAll H vs (st.deeds.map Deed.data)
def keptV (q : SP) (st : SS) : List V := [.ref q.d, .int st.com, .ref q.am, .ref q.b, .ref q.dd]
inductive KeptIn (H : Hp) : List V → List SP → List SS → Prop
  | nil : KeptIn H [] [] []
  | cons {t : Addr} {q : SP} {st : SS} {vs : List V} {qs : List SP} {sts : List SS} : H t = some (.tup (keptV q st)) → SnapAt H q st → KeptIn H vs qs sts → KeptIn H (.ref t :: vs) (q :: qs) (st :: sts)
theorem flat_ints : ∀ l : List Int, flatAll (l.map PyData.int) = true
  | [] => rfl
  | x :: l => by simp [flatAll, flat, flat_ints l]
theorem deed_flat (d : Deed) : flat d.data = true := by simp [Deed.data, flat, flatAll, flat_ints]
theorem deeds_flat : ∀ l : List Deed, flatAll (l.map Deed.data) = true
  | [] => rfl
  | x :: l => by simp [flatAll, deed_flat, deeds_flat l]
section
variable {H H' : Hp} {q : SP} {st : SS} {vs : List V} {qs : List SP} {sts : List SS}
theorem SnapAt.stay (h : SnapAt H q st) (k : ∀ a xs, H a = some (.tup xs) → H' a = some (.tup xs)) (m : ∀ a ∈ q.muts, ∀ o, H a = some o → H' a = some o) : SnapAt H' q st := by
  obtain ⟨⟨kvs, d1, d2⟩, am, l0, l1, l2, b, ⟨vs, e1, e2⟩⟩ := h
  exact ⟨⟨kvs, m _ (by simp [SP.muts]) _ d1, d2.stay k⟩, k _ _ am, m _ (by simp [SP.muts]) _ l0, m _ (by simp [SP.muts]) _ l1, m _ (by simp [SP.muts]) _ l2, m _ (by simp [SP.muts]) _ b, ⟨vs, m _ (by simp [SP.muts]) _ e1, dvAll_stay k (deeds_flat _) e2⟩⟩
theorem KeptIn.stay (h : KeptIn H vs qs sts) (k : ∀ a xs, H a = some (.tup xs) → H' a = some (.tup xs)) (m : ∀ a ∈ qs.flatMap SP.muts, ∀ o, H a = some o → H' a = some o) : KeptIn H' vs qs sts := by
  induction h with
  | nil => exact .nil
  | cons e s _ ih => exact .cons (k _ _ e) (s.stay k fun a ha => m a (by rw [List.flatMap_cons]; exact List.mem_append_left _ ha)) (ih fun a ha => m a (by rw [List.flatMap_cons]; exact List.mem_append_right _ ha))
theorem KeptIn.snoc {t : Addr} (h : KeptIn H vs qs sts) (e : H t = some (.tup (keptV q st))) (s : SnapAt H q st) : KeptIn H (vs ++ [.ref t]) (qs ++ [q]) (sts ++ [st]) := by
  induction h with
  | nil => exact .cons e s .nil
  | cons e1 s1 _ ih => exact .cons e1 s1 ih
theorem KeptIn.len (h : KeptIn H vs qs sts) : vs.length = sts.length ∧ qs.length = sts.length := by
  induction h with
  | nil => exact ⟨rfl, rfl⟩
  | cons _ _ _ ih => simp [ih.1, ih.2]
/-- not a tuple -/
def NoTup (o : HO) : Prop := ∀ xs, o ≠ .tup xs
theorem SnapAt.there (h : SnapAt H q st) : ∀ a ∈ q.muts, ∃ o, H a = some o ∧ NoTup o := by
  obtain ⟨⟨kvs, d1, d2⟩, am, l0, l1, l2, b, ⟨vs, e1, e2⟩⟩ := h
  intro a ha
  simp only [SP.muts, List.mem_cons, List.not_mem_nil, or_false] at ha
  rcases ha with rfl | rfl | rfl | rfl | rfl | rfl
  · exact ⟨_, d1, fun _ z => by cases z⟩
  · exact ⟨_, l0, fun _ z => by cases z⟩
  · exact ⟨_, l1, fun _ z => by cases z⟩
  · exact ⟨_, l2, fun _ z => by cases z⟩
  · exact ⟨_, b, fun _ z => by cases z⟩
  · exact ⟨_, e1, fun _ z => by cases z⟩
theorem KeptIn.there (h : KeptIn H vs qs sts) : ∀ a ∈ qs.flatMap SP.muts, ∃ o, H a = some o ∧ NoTup o := by
  induction h with
  | nil => intro a ha; simp at ha
  | cons e s _ ih =>
    intro a ha
    rw [List.flatMap_cons] at ha
    rcases List.mem_append.mp ha with z | z
    · exact s.there a z
    · exact ih a z
end
/-! ### the shop -/
abbrev fsShop (p d : V) (c : V) (am b dd lb la : V) : List (Str × V) := [("faces", p), ("standing", d), ("coming", c), ("amounts", am), ("bundles", b), ("deeds_done", dd), ("behind", lb), ("ahead", la)]
section
variable {p d c am b dd lb la : V}
theorem lkS_faces : (fsShop p d c am b dd lb la).lookup ("faces" : Str) = some p := by rfl
theorem ptS_faces {x : V} : putF ("faces" : Str) x (fsShop p d c am b dd lb la) = fsShop x d c am b dd lb la := by rfl
theorem lkS_standing : (fsShop p d c am b dd lb la).lookup ("standing" : Str) = some d := by rfl
theorem ptS_standing {x : V} : putF ("standing" : Str) x (fsShop p d c am b dd lb la) = fsShop p x c am b dd lb la := by rfl
theorem lkS_coming : (fsShop p d c am b dd lb la).lookup ("coming" : Str) = some c := by rfl
theorem ptS_coming {x : V} : putF ("coming" : Str) x (fsShop p d c am b dd lb la) = fsShop p d x am b dd lb la := by rfl
theorem lkS_amounts : (fsShop p d c am b dd lb la).lookup ("amounts" : Str) = some am := by rfl
theorem ptS_amounts {x : V} : putF ("amounts" : Str) x (fsShop p d c am b dd lb la) = fsShop p d c x b dd lb la := by rfl
theorem lkS_bundles : (fsShop p d c am b dd lb la).lookup ("bundles" : Str) = some b := by rfl
theorem ptS_bundles {x : V} : putF ("bundles" : Str) x (fsShop p d c am b dd lb la) = fsShop p d c am x dd lb la := by rfl
theorem lkS_deeds_done : (fsShop p d c am b dd lb la).lookup ("deeds_done" : Str) = some dd := by rfl
theorem ptS_deeds_done {x : V} : putF ("deeds_done" : Str) x (fsShop p d c am b dd lb la) = fsShop p d c am b x lb la := by rfl
theorem lkS_behind : (fsShop p d c am b dd lb la).lookup ("behind" : Str) = some lb := by rfl
theorem ptS_behind {x : V} : putF ("behind" : Str) x (fsShop p d c am b dd lb la) = fsShop p d c am b dd x la := by rfl
theorem lkS_ahead : (fsShop p d c am b dd lb la).lookup ("ahead" : Str) = some la := by rfl
theorem ptS_ahead {x : V} : putF ("ahead" : Str) x (fsShop p d c am b dd lb la) = fsShop p d c am b dd lb x := by rfl
theorem noS_kept : (fsShop p d c am b dd lb la).lookup ("kept" : Str) = none := by rfl
theorem noS_become : (fsShop p d c am b dd lb la).lookup ("become" : Str) = none := by rfl
theorem noS_store : (fsShop p d c am b dd lb la).lookup ("store" : Str) = none := by rfl
theorem noS_began : (fsShop p d c am b dd lb la).lookup ("began" : Str) = none := by rfl
theorem noS_rod : (fsShop p d c am b dd lb la).lookup ("rod" : Str) = none := by rfl
theorem noS_rods : (fsShop p d c am b dd lb la).lookup ("rods" : Str) = none := by rfl
theorem noS_new_rod : (fsShop p d c am b dd lb la).lookup ("new_rod" : Str) = none := by rfl
theorem noS_held_in : (fsShop p d c am b dd lb la).lookup ("held_in" : Str) = none := by rfl
theorem noS_gather : (fsShop p d c am b dd lb la).lookup ("gather" : Str) = none := by rfl
theorem noS_pull : (fsShop p d c am b dd lb la).lookup ("pull" : Str) = none := by rfl
theorem noS_bundle : (fsShop p d c am b dd lb la).lookup ("bundle" : Str) = none := by rfl
theorem noS_turn : (fsShop p d c am b dd lb la).lookup ("turn" : Str) = none := by rfl
theorem noS_cut : (fsShop p d c am b dd lb la).lookup ("cut" : Str) = none := by rfl
theorem noS_fuse : (fsShop p d c am b dd lb la).lookup ("fuse" : Str) = none := by rfl
theorem noS_gone : (fsShop p d c am b dd lb la).lookup ("gone" : Str) = none := by rfl
theorem noS_sell : (fsShop p d c am b dd lb la).lookup ("sell" : Str) = none := by rfl
theorem noS_waste : (fsShop p d c am b dd lb la).lookup ("waste" : Str) = none := by rfl
theorem noS_undo : (fsShop p d c am b dd lb la).lookup ("undo" : Str) = none := by rfl
theorem noS_redo : (fsShop p d c am b dd lb la).lookup ("redo" : Str) = none := by rfl
theorem noS_twin : (fsShop p d c am b dd lb la).lookup ("twin" : Str) = none := by rfl
theorem noS_glass : (fsShop p d c am b dd lb la).lookup ("glass" : Str) = none := by rfl
theorem noS_bundled : (fsShop p d c am b dd lb la).lookup ("bundled" : Str) = none := by rfl
theorem noS_deeds : (fsShop p d c am b dd lb la).lookup ("deeds" : Str) = none := by rfl
theorem noS_look : (fsShop p d c am b dd lb la).lookup ("look" : Str) = none := by rfl
theorem noS_do : (fsShop p d c am b dd lb la).lookup ("do" : Str) = none := by rfl
end
structure ShopAt (C : Addr) (H : Hp) (s p : Addr) (B : SB) (now : SS) (past ahead : List SS) : Prop where
  ob : H s = some (.ins C B.dx (fsShop (.ref p) (.ref B.q.d) (.int now.com) (.ref B.q.am) (.ref B.q.b) (.ref B.q.dd) (.ref B.lb) (.ref B.la)))
  cur : SnapAt H B.q now
  hb : H B.lb = some (.lst B.vs)
  kb : KeptIn H B.vs B.qs past
  ha : H B.la = some (.lst B.ws)
  ka : KeptIn H B.ws B.rs ahead
  nd : (B.muts s).Nodup
section
variable {C : Addr} {H H' : Hp} {s p : Addr} {B : SB} {now : SS} {past ahead : List SS}
theorem ShopAt.stay (h : ShopAt C H s p B now past ahead) (k : ∀ a xs, H a = some (.tup xs) → H' a = some (.tup xs)) (m : ∀ a ∈ B.muts s, ∀ o, H a = some o → H' a = some o) : ShopAt C H' s p B now past ahead :=
  ⟨m _ (by simp [SB.muts]) _ h.ob, h.cur.stay k fun a ha => m a (by simp [SB.muts, ha]), m _ (by simp [SB.muts]) _ h.hb, h.kb.stay k fun a ha => m a (by simp only [SB.muts, List.mem_cons, List.mem_append]; exact .inr (.inr (.inr (.inr (.inl ha))))),
    m _ (by simp [SB.muts]) _ h.ha, h.ka.stay k fun a ha => m a (by simp only [SB.muts, List.mem_cons, List.mem_append]; exact .inr (.inr (.inr (.inr (.inr ha))))), h.nd⟩
theorem ShopAt.same (h : ShopAt C H s p B now past ahead) (e : Same H H') : ShopAt C H' s p B now past ahead := h.stay (fun a xs q => e _ _ q) fun a _ o q => e _ _ q
theorem ShopAt.there (h : ShopAt C H s p B now past ahead) : ∀ a ∈ B.muts s, ∃ o, H a = some o ∧ NoTup o := by
  intro a ha
  simp only [SB.muts, List.mem_cons, List.mem_append] at ha
  rcases ha with rfl | rfl | rfl | z | z | z
  · exact ⟨_, h.ob, fun _ z => by cases z⟩
  · exact ⟨_, h.hb, fun _ z => by cases z⟩
  · exact ⟨_, h.ha, fun _ z => by cases z⟩
  · exact h.cur.there a z
  · exact h.kb.there a z
  · exact h.ka.there a z
/-- a mutable thing is written: tuples stay -/
theorem tup_stay {a : Addr} {o u : HO} (e : H a = some u) (n : NoTup u) : ∀ b xs, H b = some (.tup xs) → upd H a o b = some (.tup xs) := fun b xs q => by
  rw [upd_ne (fun z => by rw [z, e] at q; exact n xs (Option.some.inj q))]; exact q
theorem off {a : Addr} {o : HO} {l : List Addr} (h : a ∉ l) : ∀ b ∈ l, ∀ u, H b = some u → upd H a o b = some u := fun b hb u e => by
  rw [upd_ne (fun z => h (by rw [← z]; exact hb))]; exact e
/-- all that is apart -/
structure Apt (s : Addr) (B : SB) : Prop where
  s1 : s ≠ B.lb
  s2 : s ≠ B.la
  s3 : s ∉ B.q.muts
  s4 : s ∉ B.qs.flatMap SP.muts
  s5 : s ∉ B.rs.flatMap SP.muts
  b1 : B.lb ≠ B.la
  b3 : B.lb ∉ B.q.muts
  b4 : B.lb ∉ B.qs.flatMap SP.muts
  b5 : B.lb ∉ B.rs.flatMap SP.muts
  a3 : B.la ∉ B.q.muts
  a4 : B.la ∉ B.qs.flatMap SP.muts
  a5 : B.la ∉ B.rs.flatMap SP.muts
  q0 : B.q.muts.Nodup
  q4 : ∀ a ∈ B.q.muts, a ∉ B.qs.flatMap SP.muts
  q5 : ∀ a ∈ B.q.muts, a ∉ B.rs.flatMap SP.muts
  r0 : (B.qs.flatMap SP.muts).Nodup
  r1 : (B.rs.flatMap SP.muts).Nodup
  r5 : ∀ a ∈ B.qs.flatMap SP.muts, a ∉ B.rs.flatMap SP.muts
theorem apt_iff {s : Addr} {B : SB} : (B.muts s).Nodup ↔ Apt s B := by
  unfold SB.muts
  simp only [List.nodup_cons, List.nodup_append, List.mem_cons, List.mem_append, not_or]
  constructor
  · rintro ⟨⟨a1, a2, a3, a4, a5⟩, ⟨b1, b2, b3, b4⟩, ⟨c1, c2, c3⟩, d, ⟨e1, e2, e3⟩, f⟩
    exact ⟨a1, a2, a3, a4, a5, b1, b2, b3, b4, c1, c2, c3, d, fun a ha hb => f a ha a (.inl hb) rfl, fun a ha hb => f a ha a (.inr hb) rfl, e1, e2, fun a ha hb => e3 a ha a hb rfl⟩
  · intro h
    exact ⟨⟨h.s1, h.s2, h.s3, h.s4, h.s5⟩, ⟨h.b1, h.b3, h.b4, h.b5⟩, ⟨h.a3, h.a4, h.a5⟩, h.q0, ⟨h.r0, h.r1, fun a ha b hb e => h.r5 a ha (e ▸ hb)⟩, fun a ha b hb e => hb.elim (fun z => h.q4 a ha (e ▸ z)) fun z => h.q5 a ha (e ▸ z)⟩
theorem ShopAt.apt (h : ShopAt C H s p B now past ahead) : Apt s B := apt_iff.mp h.nd
/-- a part of the present stand is written -/
theorem ShopAt.cur_upd (h : ShopAt C H s p B now past ahead) {a : Addr} {o : HO} {now' : SS} (ha : a ∈ B.q.muts) (ec : now'.com = now.com) (hs : SnapAt (upd H a o) B.q now') : ShopAt C (upd H a o) s p B now' past ahead := by
  have A := h.apt
  obtain ⟨u, hu, nu⟩ := h.cur.there a ha
  have k := tup_stay (H := H) (o := o) hu nu
  refine ⟨?_, hs, ?_, h.kb.stay k (off (A.q4 a ha)), ?_, h.ka.stay k (off (A.q5 a ha)), h.nd⟩
  · rw [upd_ne (fun z => A.s3 (by rw [z]; exact ha)), ec]; exact h.ob
  · rw [upd_ne (fun z => A.b3 (by rw [z]; exact ha))]; exact h.hb
  · rw [upd_ne (fun z => A.a3 (by rw [z]; exact ha))]; exact h.ha
theorem SP.nd6 {q : SP} (h : q.muts.Nodup) : (q.d ≠ q.l0 ∧ q.d ≠ q.l1 ∧ q.d ≠ q.l2 ∧ q.d ≠ q.b ∧ q.d ≠ q.dd) ∧ (q.l0 ≠ q.l1 ∧ q.l0 ≠ q.l2 ∧ q.l0 ≠ q.b ∧ q.l0 ≠ q.dd) ∧ (q.l1 ≠ q.l2 ∧ q.l1 ≠ q.b ∧ q.l1 ≠ q.dd) ∧ (q.l2 ≠ q.b ∧ q.l2 ≠ q.dd) ∧ q.b ≠ q.dd := by
  simp only [SP.muts, List.nodup_cons, List.mem_cons, List.not_mem_nil, or_false, not_or] at h
  obtain ⟨h1, h2, h3, h4, h5, _⟩ := h
  exact ⟨h1, h2, h3, h4, h5⟩
/-- the rods are written -/
theorem ShopAt.setRods (h : ShopAt C H s p B now past ahead) {kvs : List (Key × V)} {rods : List Rod} (hr : RodsIn H kvs rods) : ShopAt C (upd H B.q.d (.dK kvs)) s p B { now with rods := rods } past ahead := by
  obtain ⟨⟨kv0, d1, d2⟩, am, l0, l1, l2, b, ⟨vs, e1, e2⟩⟩ := id h.cur
  have k := tup_stay (H := H) (o := .dK kvs) d1 (fun _ z => by cases z)
  obtain ⟨⟨n1, n2, n3, n4, n5⟩, _⟩ := SP.nd6 h.apt.q0
  exact h.cur_upd (by simp [SP.muts]) rfl ⟨⟨kvs, upd_same, hr.stay k⟩, k _ _ am, by rw [upd_ne n1.symm]; exact l0, by rw [upd_ne n2.symm]; exact l1, by rw [upd_ne n3.symm]; exact l2, by rw [upd_ne n4.symm]; exact b, ⟨vs, by rw [upd_ne n5.symm]; exact e1, dvAll_stay k (deeds_flat _) e2⟩⟩
theorem ShopAt.setA0 (h : ShopAt C H s p B now past ahead) {l : List Int} : ShopAt C (upd H B.q.l0 (.lst (l.map V.int))) s p B { now with a0 := l } past ahead := by
  obtain ⟨⟨kv0, d1, d2⟩, am, l0, l1, l2, b, ⟨vs, e1, e2⟩⟩ := id h.cur
  have k := tup_stay (H := H) (o := .lst (l.map V.int)) l0 (fun _ z => by cases z)
  obtain ⟨⟨n1, _⟩, ⟨m1, m2, m3, m4⟩, _⟩ := SP.nd6 h.apt.q0
  exact h.cur_upd (by simp [SP.muts]) rfl ⟨⟨kv0, by rw [upd_ne n1]; exact d1, d2.stay k⟩, k _ _ am, upd_same, by rw [upd_ne m1.symm]; exact l1, by rw [upd_ne m2.symm]; exact l2, by rw [upd_ne m3.symm]; exact b, ⟨vs, by rw [upd_ne m4.symm]; exact e1, dvAll_stay k (deeds_flat _) e2⟩⟩
theorem ShopAt.setA1 (h : ShopAt C H s p B now past ahead) {l : List Int} : ShopAt C (upd H B.q.l1 (.lst (l.map V.int))) s p B { now with a1 := l } past ahead := by
  obtain ⟨⟨kv0, d1, d2⟩, am, l0, l1, l2, b, ⟨vs, e1, e2⟩⟩ := id h.cur
  have k := tup_stay (H := H) (o := .lst (l.map V.int)) l1 (fun _ z => by cases z)
  obtain ⟨⟨_, n1, _⟩, ⟨m1, _⟩, ⟨k1, k2, k3⟩, _⟩ := SP.nd6 h.apt.q0
  exact h.cur_upd (by simp [SP.muts]) rfl ⟨⟨kv0, by rw [upd_ne n1]; exact d1, d2.stay k⟩, k _ _ am, by rw [upd_ne m1]; exact l0, upd_same, by rw [upd_ne k1.symm]; exact l2, by rw [upd_ne k2.symm]; exact b, ⟨vs, by rw [upd_ne k3.symm]; exact e1, dvAll_stay k (deeds_flat _) e2⟩⟩
theorem ShopAt.setA2 (h : ShopAt C H s p B now past ahead) {l : List Int} : ShopAt C (upd H B.q.l2 (.lst (l.map V.int))) s p B { now with a2 := l } past ahead := by
  obtain ⟨⟨kv0, d1, d2⟩, am, l0, l1, l2, b, ⟨vs, e1, e2⟩⟩ := id h.cur
  have k := tup_stay (H := H) (o := .lst (l.map V.int)) l2 (fun _ z => by cases z)
  obtain ⟨⟨_, _, n1, _⟩, ⟨_, m1, _⟩, ⟨k1, _⟩, ⟨j1, j2⟩, _⟩ := SP.nd6 h.apt.q0
  exact h.cur_upd (by simp [SP.muts]) rfl ⟨⟨kv0, by rw [upd_ne n1]; exact d1, d2.stay k⟩, k _ _ am, by rw [upd_ne m1]; exact l0, by rw [upd_ne k1]; exact l1, upd_same, by rw [upd_ne j1.symm]; exact b, ⟨vs, by rw [upd_ne j2.symm]; exact e1, dvAll_stay k (deeds_flat _) e2⟩⟩
theorem ShopAt.setBun (h : ShopAt C H s p B now past ahead) {l : List Int} : ShopAt C (upd H B.q.b (.lst (l.map V.int))) s p B { now with bun := l } past ahead := by
  obtain ⟨⟨kv0, d1, d2⟩, am, l0, l1, l2, b, ⟨vs, e1, e2⟩⟩ := id h.cur
  have k := tup_stay (H := H) (o := .lst (l.map V.int)) b (fun _ z => by cases z)
  obtain ⟨⟨_, _, _, n1, _⟩, ⟨_, _, m1, _⟩, ⟨_, k1, _⟩, ⟨j1, _⟩, i1⟩ := SP.nd6 h.apt.q0
  exact h.cur_upd (by simp [SP.muts]) rfl ⟨⟨kv0, by rw [upd_ne n1]; exact d1, d2.stay k⟩, k _ _ am, by rw [upd_ne m1]; exact l0, by rw [upd_ne k1]; exact l1, by rw [upd_ne j1]; exact l2, upd_same, ⟨vs, by rw [upd_ne i1.symm]; exact e1, dvAll_stay k (deeds_flat _) e2⟩⟩
theorem ShopAt.setDeeds (h : ShopAt C H s p B now past ahead) {vs : List V} {ds : List Deed} (hd : DvAll H vs (ds.map Deed.data)) : ShopAt C (upd H B.q.dd (.lst vs)) s p B { now with deeds := ds } past ahead := by
  obtain ⟨⟨kv0, d1, d2⟩, am, l0, l1, l2, b, ⟨vs0, e1, e2⟩⟩ := id h.cur
  have k := tup_stay (H := H) (o := .lst vs) e1 (fun _ z => by cases z)
  obtain ⟨⟨_, _, _, _, n1⟩, ⟨_, _, _, m1⟩, ⟨_, _, k1⟩, ⟨_, j1⟩, i1⟩ := SP.nd6 h.apt.q0
  exact h.cur_upd (by simp [SP.muts]) rfl ⟨⟨kv0, by rw [upd_ne n1]; exact d1, d2.stay k⟩, k _ _ am, by rw [upd_ne m1]; exact l0, by rw [upd_ne k1]; exact l1, by rw [upd_ne j1]; exact l2, by rw [upd_ne i1]; exact b, ⟨vs, upd_same, dvAll_stay k (deeds_flat _) hd⟩⟩
theorem ShopAt.setCom (h : ShopAt C H s p B now past ahead) {c : Int} : ShopAt C (upd H s (.ins C B.dx (fsShop (.ref p) (.ref B.q.d) (.int c) (.ref B.q.am) (.ref B.q.b) (.ref B.q.dd) (.ref B.lb) (.ref B.la)))) s p B { now with com := c } past ahead := by
  have A := h.apt
  have k := tup_stay (H := H) (o := (.ins C B.dx (fsShop (.ref p) (.ref B.q.d) (.int c) (.ref B.q.am) (.ref B.q.b) (.ref B.q.dd) (.ref B.lb) (.ref B.la)))) h.ob (fun _ z => by cases z)
  obtain ⟨d, am, l0, l1, l2, b, dd⟩ := h.cur.stay k (off A.s3)
  exact ⟨upd_same, ⟨d, am, l0, l1, l2, b, dd⟩, by rw [upd_ne A.s1.symm]; exact h.hb, h.kb.stay k (off A.s4), by rw [upd_ne A.s2.symm]; exact h.ha, h.ka.stay k (off A.s5), h.nd⟩
/-- the present stand is kept behind -/
theorem ShopAt.pushB (h : ShopAt C H s p B now past ahead) {t : Addr} {q : SP} {st : SS} (ht : H t = some (.tup (keptV q st))) (hs : SnapAt H q st) (nq : q.muts.Nodup) (ap : ∀ a ∈ q.muts, a ∉ B.muts s) :
    ShopAt C (upd H B.lb (.lst (B.vs ++ [.ref t]))) s p { B with qs := B.qs ++ [q], vs := B.vs ++ [.ref t] } now (past ++ [st]) ahead := by
  have A := h.apt
  have k := tup_stay (H := H) (o := .lst (B.vs ++ [.ref t])) h.hb (fun _ z => by cases z)
  have n3 : B.lb ∉ q.muts := fun z => ap _ z (by simp [SB.muts])
  have fm : (B.qs ++ [q]).flatMap SP.muts = B.qs.flatMap SP.muts ++ q.muts := by simp
  refine ⟨by rw [upd_ne A.s1]; exact h.ob, h.cur.stay k (off A.b3), upd_same, (h.kb.stay k (off A.b4)).snoc (k _ _ ht) (hs.stay k (off n3)), by rw [upd_ne A.b1.symm]; exact h.ha, h.ka.stay k (off A.b5), apt_iff.mpr ?_⟩
  have out : ∀ a ∈ q.muts, a ≠ s ∧ a ≠ B.lb ∧ a ≠ B.la ∧ a ∉ B.q.muts ∧ a ∉ B.qs.flatMap SP.muts ∧ a ∉ B.rs.flatMap SP.muts := fun a ha => by
    have := ap a ha
    simpa only [SB.muts, List.mem_cons, List.mem_append, not_or] using this
  exact ⟨A.s1, A.s2, A.s3, by rw [fm, List.mem_append]; exact not_or.mpr ⟨A.s4, fun z => (out s z).1 rfl⟩, A.s5, A.b1, A.b3, by rw [fm, List.mem_append]; exact not_or.mpr ⟨A.b4, n3⟩, A.b5, A.a3, by rw [fm, List.mem_append]; exact not_or.mpr ⟨A.a4, fun z => (out _ z).2.2.1 rfl⟩, A.a5, A.q0,
    fun a ha => by rw [fm, List.mem_append]; exact not_or.mpr ⟨A.q4 a ha, fun z => (out a z).2.2.2.1 ha⟩, A.q5, by rw [fm, List.nodup_append]; exact ⟨A.r0, nq, fun a ha b hb e => (out b hb).2.2.2.2.1 (e ▸ ha)⟩, A.r1, fun a ha => by
      rw [fm, List.mem_append] at ha
      exact ha.elim (A.r5 a) fun z => (out a z).2.2.2.2.2⟩
/-- nothing more to be done again -/
theorem ShopAt.clearA (h : ShopAt C H s p B now past ahead) {la : Addr} (hl : H la = some (.lst [])) (nl : la ∉ B.muts s) :
    ShopAt C (upd H s (.ins C B.dx (fsShop (.ref p) (.ref B.q.d) (.int now.com) (.ref B.q.am) (.ref B.q.b) (.ref B.q.dd) (.ref B.lb) (.ref la)))) s p { B with la := la, rs := [], ws := [] } now past [] := by
  have A := h.apt
  have k := tup_stay (H := H) (o := (.ins C B.dx (fsShop (.ref p) (.ref B.q.d) (.int now.com) (.ref B.q.am) (.ref B.q.b) (.ref B.q.dd) (.ref B.lb) (.ref la)))) h.ob (fun _ z => by cases z)
  simp only [SB.muts, List.mem_cons, List.mem_append, not_or] at nl
  obtain ⟨m1, m2, m3, m4, m5, m6⟩ := nl
  exact ⟨upd_same, h.cur.stay k (off A.s3), by rw [upd_ne A.s1.symm]; exact h.hb, h.kb.stay k (off A.s4), by rw [upd_ne m1]; exact hl, .nil, apt_iff.mpr ⟨A.s1, fun z => m1 z.symm, A.s3, A.s4, by simp, fun z => m2 z.symm, A.b3, A.b4, by simp, m4, m5, by simp, A.q0, A.q4, fun a _ => by simp, A.r0, by simp, fun a _ => by simp⟩⟩
end
/-! ### what stands is good -/
structure RodOk (ps : List Pic) (k : Nat) (r : Rod) : Prop where
  pic : ∃ P, IsF ps r.f P ∧ ((P.depth : Nat) : Int) ≤ r.t
  thin : r.t ≤ 12
  long : 1 ≤ r.l
  cap : r.l < 2 ^ (60 + 30 * k)
  one : 1 ≤ r.n
structure SumOk (k : Nat) (l : List Int) : Prop where
  ten : l.length = 10
  rg : ∀ x ∈ l, 0 ≤ x ∧ x < 2 ^ (100 + 30 * k)
structure StOk (ps : List Pic) (k : Nat) (st : SS) : Prop where
  up : (st.rods.map (·.n)).Pairwise (· < ·)
  rod : ∀ r ∈ st.rods, RodOk ps k r ∧ r.n < st.com
  com1 : 1 ≤ st.com
  com : st.com ≤ k + 1
  rl : st.rods.length ≤ k
  dl : st.deeds.length ≤ k
  bl : st.bun.length ≤ k
  a0 : SumOk k st.a0
  a1 : SumOk k st.a1
  a2 : SumOk k st.a2
  bun : ∀ f ∈ st.bun, ∃ P, IsF ps f P
theorem p2_le {a b : Nat} (h : a ≤ b) : (2 : Int) ^ a ≤ 2 ^ b := by
  have e1 : (2 : Int) ^ b = 2 ^ a * 2 ^ (b - a) := by rw [← Int.pow_add]; congr 1; omega
  have h1 : (1 : Int) ≤ 2 ^ (b - a) := by have := pow2 (b - a); omega
  have h2 := Int.mul_le_mul_of_nonneg_left h1 (Int.le_of_lt (pow2 a))
  rw [e1]; omega
theorem SumOk.up {k j : Nat} {l : List Int} (h : SumOk k l) (e : k ≤ j) : SumOk j l := ⟨h.ten, fun x hx => ⟨(h.rg x hx).1, Int.lt_of_lt_of_le (h.rg x hx).2 (p2_le (by omega))⟩⟩
theorem RodOk.mono {ps qs : List Pic} {k j : Nat} {r : Rod} (h : RodOk ps k r) (e : k ≤ j) : RodOk (ps ++ qs) j r :=
  ⟨let ⟨P, a, b⟩ := h.pic; ⟨P, a.app, b⟩, h.thin, h.long, Int.lt_of_lt_of_le h.cap (p2_le (by omega)), h.one⟩
theorem StOk.mono {ps qs : List Pic} {k j : Nat} {st : SS} (h : StOk ps k st) (e : k ≤ j) : StOk (ps ++ qs) j st :=
  ⟨h.up, fun r hr => ⟨(h.rod r hr).1.mono e, (h.rod r hr).2⟩, h.com1, by have := h.com; omega, by have := h.rl; omega, by have := h.dl; omega, by have := h.bl; omega, h.a0.up e, h.a1.up e, h.a2.up e, fun f hf => let ⟨P, z⟩ := h.bun f hf; ⟨P, z.app⟩⟩
structure Wd (K : PySem.W.Frag) (H : Hp) (p : Addr) (A : FA) (D : Addr → Prop) (ps bs : List Pic) (s : Addr) (B : SB) (now : SS) (past ahead : List SS) (k : Nat) : Prop where
  F : FacesAt (He.ga K "Faces") H p A D ps
  base : Base bs ps
  S : ShopAt (He.ga K "Shop") H s p B now past ahead
  ap : ∀ a ∈ B.muts s, ¬ D a
  ok : ∀ st, st = now ∨ st ∈ past ∨ st ∈ ahead → StOk ps k st
  bl : bs.length ≤ 8000 + k
  kl : k ≤ 1000
  pl : past.length ≤ k
section
variable {K : PySem.W.Frag} {H H' : Hp} {p : Addr} {A : FA} {D D' : Addr → Prop} {ps qs bs : List Pic} {s : Addr} {B : SB} {now : SS} {past ahead : List SS} {k : Nat}
theorem Wd.same (h : Wd K H p A D ps bs s B now past ahead k) (e : Same H H') : Wd K H' p A D ps bs s B now past ahead k := ⟨h.F.same e, h.base, h.S.same e, h.ap, h.ok, h.bl, h.kl, h.pl⟩
/-- the store of faces has worked -/
theorem Wd.faces (h : Wd K H p A D ps bs s B now past ahead k) {cs : List Pic} (kp : Keep A.foot H H') (hF : FacesAt (He.ga K "Faces") H' p A D' (ps ++ qs)) (hB : Base cs (ps ++ qs)) (hl : cs.length ≤ 8000 + k) (d2 : ∀ b, D' b → D b ∨ H b = none) : Wd K H' p A D' (ps ++ qs) cs s B now past ahead k :=
  ⟨hF, hB, h.S.stay (kp.tup h.F) (fun a ha o e => kp _ _ e (h.F.ofFoot (h.ap a ha))), fun a ha => by
    obtain ⟨o, e, _⟩ := h.S.there a ha
    exact fresh_not e (h.ap a ha) d2, fun st hst => (h.ok st hst).mono (Nat.le_refl _), hl, h.kl, h.pl⟩
theorem Wd.len (h : Wd K H p A D ps bs s B now past ahead k) : ps.length ≤ 72000 := by
  have h1 := h.base.len h.F.inv.nd
  have h2 := h.bl
  have h3 := h.kl
  omega
end
/-- how deep the picture of a face is -/
def depthF (ps : List Pic) (f : Int) : Int := ((ps.getD f.toNat (.p 0)).depth : Nat)
theorem depthF_of {ps : List Pic} {f : Int} {P : Pic} (h : IsF ps f P) : depthF ps f = (P.depth : Nat) := by
  unfold depthF
  rw [List.getD_eq_getElem?_getD, h.2]
  rfl
def picF (ps : List Pic) (f : Int) : Pic := ps.getD f.toNat (.p 0)
theorem picF_of {ps : List Pic} {f : Int} {P : Pic} (h : IsF ps f P) : picF ps f = P := by
  unfold picF
  rw [List.getD_eq_getElem?_getD, h.2]
  rfl
/-- the refusal that is due -/
def refuse (ps : List Pic) (st : SS) : Deed → Option Str
  | .gather c t l => if ¬ (0 ≤ c ∧ c ≤ 9) then some "BadColour" else if ¬ (0 ≤ t ∧ t ≤ 12) then some "BadThickness" else if ¬ (1 ≤ l ∧ l ≤ 999999999999999) then some "BadLength" else none
  | .pull n k => match findR st.rods n with
    | none => some "NoRod"
    | some r => if k < 1 then some "BadSteps" else if r.t - k < depthF ps r.f then some "TooThin" else none
  | .bundle a b c d => match findR st.rods a, findR st.rods b, findR st.rods c, findR st.rods d with
    | some ra, some rb, some rc, some rd => if a = b ∨ a = c ∨ a = d ∨ b = c ∨ b = d ∨ c = d then some "Twice"
      else if ¬ ((rb.t = ra.t ∧ rb.l = ra.l) ∧ (rc.t = ra.t ∧ rc.l = ra.l) ∧ rd.t = ra.t ∧ rd.l = ra.l) then some "Unlike" else if 12 ≤ ra.t then some "TooThick" else none
    | _, _, _, _ => some "NoRod"
  | .turn n t => match findR st.rods n with
    | none => some "NoRod"
    | some _ => if ¬ (0 ≤ t ∧ t ≤ 7) then some "BadTurn" else none
  | .cut n l => match findR st.rods n with
    | none => some "NoRod"
    | some r => if l < 1 ∨ r.l ≤ l ∨ 999999999999999999 < l then some "BadLength" else none
  | .fuse a b => match findR st.rods a, findR st.rods b with
    | some ra, some rb => if a = b then some "Twice" else if ¬ (rb.f = ra.f ∧ rb.t = ra.t) then some "Unlike" else none
    | _, _ => some "NoRod"
  | .sell n => match findR st.rods n with
    | none => some "NoRod"
    | some _ => none
  | .waste n => match findR st.rods n with
    | none => some "NoRod"
    | some _ => none
def rodD (st : SS) (n : Int) : Rod := (findR st.rods n).getD ⟨0, 0, 0, 0⟩
/-- the glass of each colour in a rod -/
def heldL (ps : List Pic) (r : Rod) : List Int := (picF ps r.f).sums.map fun m => m * 4 ^ (r.t.toNat - (picF ps r.f).depth) * r.l
def addL (a b : List Int) : List Int := List.zipWith (· + ·) a b
/-- the stand behind a deed; ps: the store's pictures behind it -/
def eff (ps : List Pic) (st : SS) (dd : Deed) : SS :=
  match dd with
  | .gather c t l => { st with rods := st.rods ++ [⟨st.com, (ix ps (.p c) : Nat), t, l⟩], com := st.com + 1, a0 := st.a0.set c.toNat (st.a0.getD c.toNat 0 + 4 ^ t.toNat * l), deeds := st.deeds ++ [dd] }
  | .pull n k => let r := rodD st n; { st with rods := setR st.rods ⟨n, r.f, r.t - k, r.l * 4 ^ k.toNat⟩, deeds := st.deeds ++ [dd] }
  | .bundle a b c d =>
    let f : Int := (ix ps (Pic.mk (picF ps (rodD st a).f) (picF ps (rodD st b).f) (picF ps (rodD st c).f) (picF ps (rodD st d).f)) : Nat)
    { st with rods := dropR (dropR (dropR (dropR st.rods a) b) c) d ++ [⟨st.com, f, (rodD st a).t + 1, (rodD st a).l⟩], com := st.com + 1, bun := st.bun ++ [f], deeds := st.deeds ++ [dd] }
  | .turn n t => let r := rodD st n; { st with rods := setR st.rods ⟨n, (ix ps ((picF ps r.f).turn t) : Nat), r.t, r.l⟩, deeds := st.deeds ++ [dd] }
  | .cut n l => let r := rodD st n; { st with rods := setR st.rods ⟨n, r.f, r.t, l⟩ ++ [⟨st.com, r.f, r.t, r.l - l⟩], com := st.com + 1, deeds := st.deeds ++ [dd] }
  | .fuse a b => let r := rodD st a; { st with rods := setR (dropR st.rods b) ⟨a, r.f, r.t, r.l + (rodD st b).l⟩, deeds := st.deeds ++ [dd] }
  | .sell n => { st with rods := dropR st.rods n, a1 := addL st.a1 (heldL ps (rodD st n)), deeds := st.deeds ++ [dd] }
  | .waste n => { st with rods := dropR st.rods n, a2 := addL st.a2 (heldL ps (rodD st n)), deeds := st.deeds ++ [dd] }
def ansV (st : SS) : Deed → V
  | .gather _ _ _ => .int st.com
  | .bundle _ _ _ _ => .int st.com
  | .cut _ _ => .int st.com
  | _ => .non
/-- the pictures that a deed needs in the store behind it -/
def hasP (ps : List Pic) (st : SS) : Deed → Prop
  | .gather c _ _ => Pic.p c ∈ ps
  | .bundle a b c d => Pic.mk (picF ps (rodD st a).f) (picF ps (rodD st b).f) (picF ps (rodD st c).f) (picF ps (rodD st d).f) ∈ ps
  | .turn n t => (picF ps (rodD st n).f).turn t ∈ ps
  | _ => True
end Mur
/-! What deeds leave: good stands; the whole state of a shop and its store. -/
namespace Mur
open PySem hiding start
open PySem.Spec L2
open PyProof.Rows hiding St
structure Ws where
  p : Addr
  A : FA
  D : Addr → Prop
  ps : List Pic
  bs : List Pic
  s : Addr
  B : SB
  now : SS
  past : List SS
  ahead : List SS
  k : Nat
abbrev Ws.at (x : Ws) (K : PySem.W.Frag) (H : Hp) : Prop := Wd K H x.p x.A x.D x.ps x.bs x.s x.B x.now x.past x.ahead x.k
abbrev Ws.foot (x : Ws) (b : Addr) : Prop := x.A.foot b ∨ b ∈ x.B.muts x.s
/-- nothing is forgotten -/
def Live (H H' : Hp) : Prop := ∀ b, H' b = none → H b = none
theorem Live.refl (H : Hp) : Live H H := fun _ z => z
theorem Live.trans {H H1 H2 : Hp} (a : Live H H1) (b : Live H1 H2) : Live H H2 := fun c z => a c (b c z)
theorem Live.set {H H' : Hp} {a : Addr} {o : HO} (h : Live H H') : Live H (upd H' a o) := fun b z => h b (by
  by_cases e : b = a
  · rw [e, upd_same] at z; cases z
  · rw [upd_ne e] at z; exact z)
theorem _root_.L2.Same.live {H H' : Hp} (s : Same H H') : Live H H' := fun _ z => s.free z
theorem liveF {C : Addr} {H H' : Hp} {p : Addr} {A : FA} {D : Addr → Prop} {ps : List Pic} (hF : FacesAt C H' p A D ps) (kp : Keep A.foot H H') : Live H H' := fun b z => by
  cases e : H b with
  | none => rfl
  | some o =>
    by_cases hf : A.foot b
    · obtain ⟨o2, e2⟩ := hF.ex b (hF.df b hf)
      rw [e2] at z; cases z
    · rw [kp b o e hf] at z; cases z
/-- from x at H to y at H': what stays -/
structure Gone (H : Hp) (x : Ws) (H' : Hp) (y : Ws) : Prop where
  p : y.p = x.p
  A : y.A = x.A
  s : y.s = x.s
  ext : ∃ qs, y.ps = x.ps ++ qs
  keep : Keep x.foot H H'
  live : Live H H'
  D : ∀ b, y.D b → x.D b ∨ H b = none
  m : ∀ b ∈ y.B.muts y.s, b ∈ x.B.muts x.s ∨ H b = none
/-- a deed: refused, or the new stand -/
def Does (K : PySem.W.Frag) (H : Hp) (x : Ws) (dd : Deed) (Q : VK) (E : XK) : Prop :=
  (∀ c, refuse x.ps x.now dd = some c → ∀ H', Same H H' → E (.ref (He.ga K c)) none H') ∧
  (refuse x.ps x.now dd = none → ∀ H' (y : Ws), y.at K H' → Gone H x H' y → y.now = eff y.ps x.now dd → y.past = x.past ++ [x.now] → y.ahead = [] → y.k = x.k + 1 → hasP y.ps x.now dd → Q (ansV x.now dd) H')
theorem Does.same {K : PySem.W.Frag} {H H' : Hp} {x : Ws} {dd : Deed} {Q : VK} {E : XK} (h : Does K H x dd Q E) (s : Same H H') : Does K H' x dd Q E :=
  ⟨fun c e H2 s2 => h.1 c e H2 (s.trans s2), fun e H2 y a g => h.2 e H2 y a ⟨g.p, g.A, g.s, g.ext, s.keep.trans g.keep, s.live.trans g.live, fun b hb => (g.D b hb).imp id s.free, fun b hb => (g.m b hb).imp id s.free⟩⟩
theorem Ws.at.freshM {x : Ws} {K : PySem.W.Frag} {H : Hp} (h : x.at K H) {b : Addr} (e : H b = none) : ¬ x.foot b := fun z => by
  rcases z with z | z
  · exact h.F.ofFoot (h.F.nd e) z
  · obtain ⟨o, q, _⟩ := h.S.there b z
    rw [e] at q; cases q
/-- what is new behind was new ahead -/
theorem Ws.at.back {x : Ws} {K : PySem.W.Frag} {H H' : Hp} (h : ∀ b, x.foot b → ∃ o, H' b = some o) (kp : Keep x.foot H H') {b : Addr} (z : H' b = none) : H b = none := by
  cases e : H b with
  | none => rfl
  | some o =>
    by_cases hf : x.foot b
    · obtain ⟨o2, e2⟩ := h b hf
      rw [e2] at z; cases z
    · rw [kp b o e hf] at z; cases z
theorem Keep.setM {F : Addr → Prop} {H H' : Hp} {a : Addr} {o : HO} (h : Keep F H H') (f : F a ∨ H a = none) : Keep F H (upd H' a o) := f.elim h.set h.setNew
theorem keepM {x : Ws} {H H2 H4 : Hp} {M : Addr → Prop} (k1 : Keep x.foot H H2) (m : ∀ b, M b → x.foot b ∨ H b = none) (k2 : Keep M H2 H4) : Keep x.foot H H4 := fun b o e nf => k2 b o (k1 b o e nf) fun z => (m b z).elim nf fun y => by rw [y] at e; cases e
theorem keepF {x : Ws} {H H2 H4 : Hp} (k1 : Keep x.foot H H2) (k2 : Keep x.A.foot H2 H4) : Keep x.foot H H4 := k1.trans (k2.mono fun _ h => .inl h)
/-! ### powers -/
theorem p2_add {a b c : Nat} {x y : Int} (hx : x < 2 ^ a) (hy : y < 2 ^ b) (h1 : a < c) (h2 : b < c) : x + y < 2 ^ c := by
  have e1 := p2_le (a := a) (b := c - 1) (by omega)
  have e2 := p2_le (a := b) (b := c - 1) (by omega)
  have e3 : (2 : Int) ^ c = 2 * 2 ^ (c - 1) := by
    have : c = (c - 1) + 1 := by omega
    rw [this, Int.pow_succ]
    simp
    omega
  omega
theorem p2_mul {a b c : Nat} {x y : Int} (h0 : 0 ≤ x) (h0' : 0 ≤ y) (hx : x < 2 ^ a) (hy : y ≤ 2 ^ b) (h : a + b ≤ c) : x * y < 2 ^ c := by
  have h1 := Int.mul_le_mul_of_nonneg_left hy h0
  have h2 := Int.mul_lt_mul_of_pos_right hx (pow2 b)
  have h3 := p2_le (a := a + b) (b := c) h
  rw [Int.pow_add] at h3
  omega
theorem four_two (n : Nat) : (4 : Int) ^ n = 2 ^ (2 * n) := by rw [Int.pow_mul]; rfl
/-! ### rows of rods -/
structure RO (ps : List Pic) (k : Nat) (c : Int) (m : Nat) (rods : List Rod) : Prop where
  up : (rods.map (·.n)).Pairwise (· < ·)
  rod : ∀ r ∈ rods, RodOk ps k r ∧ r.n < c
  len : rods.length ≤ m
section
variable {ps qs : List Pic} {k j : Nat} {c c' : Int} {m m' : Nat} {rods : List Rod} {r : Rod}
theorem RO.mono (h : RO ps k c m rods) (e1 : k ≤ j) (e2 : c ≤ c') (e3 : m ≤ m') : RO (ps ++ qs) j c' m' rods := ⟨h.up, fun r hr => ⟨(h.rod r hr).1.mono e1, by have := (h.rod r hr).2; omega⟩, by have := h.len; omega⟩
theorem RO.push (h : RO ps k c m rods) (ok : RodOk ps k r) (e : r.n = c) : RO ps k (c + 1) (m + 1) (rods ++ [r]) := by
  refine ⟨?_, fun x hx => ?_, by simp; exact h.len⟩
  · rw [List.map_append, List.pairwise_append]
    refine ⟨h.up, by simp, fun a ha b hb => ?_⟩
    simp only [List.map_cons, List.map_nil, List.mem_singleton] at hb
    obtain ⟨x, hx, rfl⟩ := List.mem_map.mp ha
    rw [hb, e]
    exact (h.rod x hx).2
  · rcases List.mem_append.mp hx with z | z
    · exact ⟨(h.rod x z).1, by have := (h.rod x z).2; omega⟩
    · simp at z; rw [z]; exact ⟨ok, by omega⟩
theorem setR_nums (rods : List Rod) (r : Rod) : (setR rods r).map (·.n) = rods.map (·.n) := by
  unfold setR
  rw [List.map_map]
  apply List.map_congr_left
  intro x _
  simp only [Function.comp]
  split
  · rename_i e; exact e.symm
  · rfl
theorem RO.set (h : RO ps k c m rods) (ok : RodOk ps k r) (e : r.n < c) : RO ps k c m (setR rods r) := by
  refine ⟨by rw [setR_nums]; exact h.up, fun x hx => ?_, by unfold setR; rw [List.length_map]; exact h.len⟩
  unfold setR at hx
  obtain ⟨y, hy, rfl⟩ := List.mem_map.mp hx
  split
  · exact ⟨ok, e⟩
  · exact h.rod y hy
theorem RO.drop (h : RO ps k c m rods) (n : Int) : RO ps k c m (dropR rods n) := by
  refine ⟨?_, fun x hx => h.rod x (List.mem_filter.mp hx).1, Nat.le_trans (List.length_filter_le _ _) h.len⟩
  exact h.up.sublist (List.Sublist.map _ List.filter_sublist)
theorem RO.fresh (h : RO ps k c m rods) : findR rods c = none := by
  unfold findR
  rw [List.find?_eq_none]
  intro r hr
  have := (h.rod r hr).2
  simp; omega
theorem StOk.ro {st : SS} (h : StOk ps k st) : RO ps k st.com k st.rods := ⟨h.up, h.rod, h.rl⟩
theorem StOk.of {st now : SS} (h : StOk ps k now) (hr : RO (ps ++ qs) (k + 1) st.com (k + 1) st.rods) (c1 : now.com ≤ st.com) (c2 : st.com ≤ now.com + 1) (d : st.deeds.length ≤ now.deeds.length + 1) (b : st.bun = now.bun ∨ ∃ f P, st.bun = now.bun ++ [f] ∧ IsF (ps ++ qs) f P)
    (a0 : SumOk (k + 1) st.a0) (a1 : SumOk (k + 1) st.a1) (a2 : SumOk (k + 1) st.a2) : StOk (ps ++ qs) (k + 1) st := by
  have := h.com1
  have := h.com
  have := h.dl
  have := h.bl
  refine ⟨hr.up, hr.rod, by omega, by omega, hr.len, by omega, ?_, a0, a1, a2, ?_⟩
  · rcases b with b | ⟨f, P, b, _⟩
    · rw [b]; omega
    · rw [b]; simp; omega
  · rcases b with b | ⟨f, P, b, hP⟩
    · rw [b]; exact fun f hf => let ⟨P, z⟩ := h.bun f hf; ⟨P, z.app⟩
    · rw [b]
      intro g hg
      rcases List.mem_append.mp hg with z | z
      · obtain ⟨P, y⟩ := h.bun g z; exact ⟨P, y.app⟩
      · simp at z; rw [z]; exact ⟨P, hP⟩
theorem findR_some {st : SS} {n : Int} {r : Rod} (h : findR st.rods n = some r) : rodD st n = r := by unfold rodD; rw [h]; rfl
theorem SumOk.one (h : SumOk k m0) {i : Nat} {v : Int} (v0 : 0 ≤ v) (v1 : v < 2 ^ (110 + 30 * k)) : SumOk (k + 1) (m0.set i (m0.getD i 0 + v)) := by
  refine ⟨by rw [List.length_set]; exact h.ten, fun x hx => ?_⟩
  rcases List.mem_or_eq_of_mem_set hx with z | z
  · exact (h.up (Nat.le_succ k)).rg x z
  · have hb : 0 ≤ m0.getD i 0 ∧ m0.getD i 0 < 2 ^ (100 + 30 * k) := by
      rw [List.getD_eq_getElem?_getD]
      cases e : m0[i]? with
      | none => exact ⟨Int.le_refl _, pow2 _⟩
      | some y => exact h.rg y (List.mem_of_getElem? e)
    rw [z]
    exact ⟨by omega, p2_add hb.2 v1 (by omega) (by omega)⟩
theorem SumOk.add (h : SumOk k m0) {v : List Int} (vl : v.length = 10) (hv : ∀ x ∈ v, 0 ≤ x ∧ x < 2 ^ (110 + 30 * k)) : SumOk (k + 1) (addL m0 v) := by
  refine ⟨by unfold addL; rw [List.length_zipWith, h.ten, vl]; rfl, fun x hx => ?_⟩
  unfold addL at hx
  obtain ⟨i, hi⟩ := List.mem_iff_getElem?.mp hx
  rw [List.getElem?_zipWith] at hi
  cases e1 : m0[i]? with
  | none => rw [e1] at hi; cases hi
  | some a =>
    cases e2 : v[i]? with
    | none => rw [e1, e2] at hi; cases hi
    | some b =>
      rw [e1, e2] at hi
      obtain rfl := Option.some.inj hi
      have h1 := h.rg a (List.mem_of_getElem? e1)
      have h2 := hv b (List.mem_of_getElem? e2)
      exact ⟨by omega, p2_add h1.2 h2.2 (by omega) (by omega)⟩
theorem findR_at {rods : List Rod} (hup : (rods.map (·.n)).Pairwise (· < ·)) {i : Nat} {r : Rod} (hr : rods[i]? = some r) : findR rods r.n = some r := by
  cases e : findR rods r.n with
  | none =>
    unfold findR at e
    rw [List.find?_eq_none] at e
    have := e r (List.mem_of_getElem? hr)
    simp at this
  | some r' =>
    obtain ⟨h1', h2'⟩ := findR_n e
    have hup2 : rods.Pairwise fun a b => a.n < b.n := by rw [List.pairwise_map] at hup; exact hup
    obtain ⟨j, hj⟩ := List.mem_iff_getElem?.mp h2'
    have hjl := (List.getElem?_eq_some_iff.mp hj).1
    have hil := (List.getElem?_eq_some_iff.mp hr).1
    rw [List.pairwise_iff_getElem] at hup2
    rcases Nat.lt_trichotomy i j with c | c | c
    · have := hup2 i j hil hjl c
      rw [(List.getElem?_eq_some_iff.mp hj).2, (List.getElem?_eq_some_iff.mp hr).2] at this
      omega
    · subst c; rw [hr] at hj; exact hj.symm
    · have := hup2 j i hjl hil c
      rw [(List.getElem?_eq_some_iff.mp hj).2, (List.getElem?_eq_some_iff.mp hr).2] at this
      omega
theorem StOk.at {st : SS} (h : StOk ps k st) {i : Nat} (hr : st.rods[i]? = some r) : findR st.rods r.n = some r := findR_at h.up hr
/-! ### good stands behind deeds -/
theorem ok_gather {now : SS} {c t l : Int} (h : StOk ps k now) (hr : refuse ps now (.gather c t l) = none) (hp : Pic.p c ∈ ps ++ qs) : StOk (ps ++ qs) (k + 1) (eff (ps ++ qs) now (.gather c t l)) := by
  have hc : (0 ≤ c ∧ c ≤ 9) ∧ (0 ≤ t ∧ t ≤ 12) ∧ 1 ≤ l ∧ l ≤ 999999999999999 := by
    unfold refuse at hr
    simp only at hr
    split at hr
    · cases hr
    · split at hr
      · cases hr
      · split at hr
        · cases hr
        · rename_i a b c'; exact ⟨Decidable.not_not.mp a, Decidable.not_not.mp b, Decidable.not_not.mp c'⟩
  obtain ⟨hc, ht, hl⟩ := hc
  have hl60 : l < 2 ^ 60 := by have : (2 : Int) ^ 60 = 1152921504606846976 := by decide
                               omega
  have h4 : (4 : Int) ^ t.toNat ≤ 2 ^ 24 := by rw [four_two]; exact p2_le (by omega)
  have h40 := pow4 t.toNat
  have com1 := h.com1
  refine h.of (st := eff (ps ++ qs) now (.gather c t l)) ((h.ro.mono (qs := qs) (Nat.le_succ k) (Int.le_refl _) (Nat.le_refl _)).push ⟨⟨.p c, IsF.ix hp, by simp [Pic.depth]; omega⟩, ht.2, hl.1, Int.lt_of_lt_of_le hl60 (p2_le (by omega)), com1⟩ rfl) (by simp only [eff]; omega) (by simp only [eff]; omega) (by simp [eff]) (.inl rfl) ?_ (h.a1.up (Nat.le_succ k)) (h.a2.up (Nat.le_succ k))
  refine h.a0.one (Int.mul_nonneg (Int.le_of_lt h40) (by omega)) ?_
  rw [Int.mul_comm]
  exact p2_mul (by omega) (Int.le_of_lt h40) hl60 h4 (by omega)
theorem ok_pull {now : SS} {n s : Int} (h : StOk ps k now) (hr : refuse ps now (.pull n s) = none) : StOk (ps ++ qs) (k + 1) (eff (ps ++ qs) now (.pull n s)) := by
  unfold refuse at hr
  simp only at hr
  cases hf : findR now.rods n with
  | none => rw [hf] at hr; cases hr
  | some r =>
    rw [hf] at hr
    simp only at hr
    split at hr
    · cases hr
    split at hr
    · cases hr
    rename_i c1 c2
    obtain ⟨hn, hm⟩ := findR_n hf
    obtain ⟨ok, lt⟩ := h.rod r hm
    obtain ⟨⟨P, hP, hd⟩, thin, long, cap, one⟩ := ok
    rw [depthF_of hP] at c2
    have h4 : (4 : Int) ^ s.toNat ≤ 2 ^ 24 := by rw [four_two]; exact p2_le (by omega)
    have h40 := pow4 s.toNat
    have hmul := Int.mul_le_mul long h40 (by omega) (by omega)
    refine h.of (st := eff (ps ++ qs) now (.pull n s)) ?_ (by simp only [eff]; omega) (by simp only [eff]; omega) (by simp [eff]) (.inl rfl) (h.a0.up (Nat.le_succ k)) (h.a1.up (Nat.le_succ k)) (h.a2.up (Nat.le_succ k))
    simp only [eff, findR_some hf]
    refine (h.ro.mono (qs := qs) (Nat.le_succ k) (Int.le_refl _) (Nat.le_succ k)).set ⟨⟨P, hP.app, by simp only; omega⟩, by simp only; omega, by simp only; omega, p2_mul (by omega) (Int.le_of_lt h40) cap h4 (by omega), by simp only; omega⟩ (by simp only; omega)
theorem ok_turn {now : SS} {n t : Int} (h : StOk ps k now) (hr : refuse ps now (.turn n t) = none) (hp : hasP (ps ++ qs) now (.turn n t)) : StOk (ps ++ qs) (k + 1) (eff (ps ++ qs) now (.turn n t)) := by
  unfold refuse at hr
  simp only at hr
  cases hf : findR now.rods n with
  | none => rw [hf] at hr; cases hr
  | some r =>
    rw [hf] at hr
    simp only at hr
    split at hr
    · cases hr
    rename_i c1
    have c1 := Decidable.not_not.mp c1
    obtain ⟨hn, hm⟩ := findR_n hf
    obtain ⟨ok, lt⟩ := h.rod r hm
    obtain ⟨⟨P, hP, hd⟩, thin, long, cap, one⟩ := ok
    unfold hasP at hp
    simp only [findR_some hf, picF_of (hP.app (qs := qs))] at hp
    refine h.of (st := eff (ps ++ qs) now (.turn n t)) ?_ (by simp only [eff]; omega) (by simp only [eff]; omega) (by simp [eff]) (.inl rfl) (h.a0.up (Nat.le_succ k)) (h.a1.up (Nat.le_succ k)) (h.a2.up (Nat.le_succ k))
    simp only [eff, findR_some hf, picF_of (hP.app (qs := qs))]
    refine (h.ro.mono (qs := qs) (Nat.le_succ k) (Int.le_refl _) (Nat.le_succ k)).set ⟨⟨P.turn t, IsF.ix hp, by rw [turn_depth (by omega) (by omega)]; exact hd⟩, thin, long, Int.lt_of_lt_of_le cap (p2_le (by omega)), by simp only; omega⟩ (by simp only; omega)
theorem ok_cut {now : SS} {n l : Int} (h : StOk ps k now) (hr : refuse ps now (.cut n l) = none) : StOk (ps ++ qs) (k + 1) (eff (ps ++ qs) now (.cut n l)) := by
  unfold refuse at hr
  simp only at hr
  cases hf : findR now.rods n with
  | none => rw [hf] at hr; cases hr
  | some r =>
    rw [hf] at hr
    simp only at hr
    split at hr
    · cases hr
    rename_i c1
    obtain ⟨hn, hm⟩ := findR_n hf
    obtain ⟨ok, lt⟩ := h.rod r hm
    obtain ⟨⟨P, hP, hd⟩, thin, long, cap, one⟩ := ok
    have cap2 : r.l < 2 ^ (60 + 30 * (k + 1)) := Int.lt_of_lt_of_le cap (p2_le (by omega))
    have com1 := h.com1
    refine h.of (st := eff (ps ++ qs) now (.cut n l)) ?_ (by simp only [eff]; omega) (by simp only [eff]; omega) (by simp [eff]) (.inl rfl) (h.a0.up (Nat.le_succ k)) (h.a1.up (Nat.le_succ k)) (h.a2.up (Nat.le_succ k))
    simp only [eff, findR_some hf]
    exact ((h.ro.mono (qs := qs) (Nat.le_succ k) (Int.le_refl _) (Nat.le_refl k)).set (r := ⟨n, r.f, r.t, l⟩) ⟨⟨P, hP.app, hd⟩, thin, by simp only; omega, Int.lt_trans (show l < r.l by omega) cap2, by simp only; omega⟩ (by simp only; omega)).push (r := ⟨now.com, r.f, r.t, r.l - l⟩) ⟨⟨P, hP.app, hd⟩, thin, by simp only; omega, Int.lt_of_le_of_lt (show r.l - l ≤ r.l by omega) cap2, com1⟩ rfl
theorem ok_fuse {now : SS} {a b : Int} (h : StOk ps k now) (hr : refuse ps now (.fuse a b) = none) : StOk (ps ++ qs) (k + 1) (eff (ps ++ qs) now (.fuse a b)) := by
  unfold refuse at hr
  simp only at hr
  cases hf : findR now.rods a with
  | none => rw [hf] at hr; cases hr
  | some r =>
    cases hg : findR now.rods b with
    | none => rw [hf, hg] at hr; cases hr
    | some r2 =>
    obtain ⟨hn, hm⟩ := findR_n hf
    obtain ⟨hn2, hm2⟩ := findR_n hg
    obtain ⟨ok, lt⟩ := h.rod r hm
    obtain ⟨⟨P, hP, hd⟩, thin, long, cap, one⟩ := ok
    obtain ⟨ok2, lt2⟩ := h.rod r2 hm2
    have c2 := ok2.cap
    have l2 := ok2.long
    refine h.of (st := eff (ps ++ qs) now (.fuse a b)) ?_ (by simp only [eff]; omega) (by simp only [eff]; omega) (by simp [eff]) (.inl rfl) (h.a0.up (Nat.le_succ k)) (h.a1.up (Nat.le_succ k)) (h.a2.up (Nat.le_succ k))
    simp only [eff, findR_some hf, findR_some hg]
    refine ((h.ro.mono (qs := qs) (Nat.le_succ k) (Int.le_refl _) (Nat.le_succ k)).drop b).set ⟨⟨P, hP.app, hd⟩, thin, by simp only; omega, p2_add cap c2 (by omega) (by omega), by simp only; omega⟩ (by simp only; omega)
theorem held_len (ps : List Pic) (r : Rod) : (heldL ps r).length = 10 := by simp [heldL, Pic.sums]
theorem held_rg {r : Rod} (h : RodOk ps k r) : ∀ x ∈ heldL ps r, 0 ≤ x ∧ x < 2 ^ (110 + 30 * k) := by
  obtain ⟨⟨P, hP, hd⟩, thin, long, cap, one⟩ := h
  intro x hx
  unfold heldL at hx
  rw [picF_of hP] at hx
  obtain ⟨m, hm, rfl⟩ := List.mem_map.mp hx
  simp only [Pic.sums, List.mem_map] at hm
  obtain ⟨i, _, rfl⟩ := hm
  have hb := cnt_bd P (i : Nat)
  have hp := pow4 (r.t.toNat - P.depth)
  have h1 : P.cnt (i : Nat) * 4 ^ (r.t.toNat - P.depth) ≤ 2 ^ 24 := by
    have e1 := Int.mul_le_mul_of_nonneg_right hb.2 (Int.le_of_lt hp)
    have e2 : (4 : Int) ^ P.depth * 4 ^ (r.t.toNat - P.depth) ≤ 2 ^ 24 := by
      rw [← pow4_add, four_two]
      exact p2_le (by omega)
    exact Int.le_trans e1 e2
  have h0 : 0 ≤ P.cnt (i : Nat) * 4 ^ (r.t.toNat - P.depth) := Int.mul_nonneg hb.1 (Int.le_of_lt hp)
  refine ⟨Int.mul_nonneg h0 (by omega), ?_⟩
  rw [Int.mul_comm]
  exact p2_mul (by omega) h0 cap h1 (by omega)
theorem held_app {r : Rod} (h : RodOk ps k r) : heldL (ps ++ qs) r = heldL ps r := by
  obtain ⟨⟨P, hP, hd⟩, _⟩ := h
  unfold heldL
  rw [picF_of hP, picF_of (hP.app (qs := qs))]
theorem ok_sell {now : SS} {n : Int} (h : StOk ps k now) (hr : refuse ps now (.sell n) = none) : StOk (ps ++ qs) (k + 1) (eff (ps ++ qs) now (.sell n)) := by
  unfold refuse at hr
  simp only at hr
  cases hf : findR now.rods n with
  | none => rw [hf] at hr; cases hr
  | some r =>
    have ok := (h.rod r (findR_n hf).2).1
    refine h.of (st := eff (ps ++ qs) now (.sell n)) ((h.ro.mono (qs := qs) (Nat.le_succ k) (Int.le_refl _) (Nat.le_succ k)).drop n) (by simp only [eff]; omega) (by simp only [eff]; omega) (by simp [eff]) (.inl rfl) (h.a0.up (Nat.le_succ k)) ?_ (h.a2.up (Nat.le_succ k))
    simp only [eff, findR_some hf, held_app ok]
    exact h.a1.add (held_len _ _) (held_rg ok)
theorem ok_waste {now : SS} {n : Int} (h : StOk ps k now) (hr : refuse ps now (.waste n) = none) : StOk (ps ++ qs) (k + 1) (eff (ps ++ qs) now (.waste n)) := by
  unfold refuse at hr
  simp only at hr
  cases hf : findR now.rods n with
  | none => rw [hf] at hr; cases hr
  | some r =>
    have ok := (h.rod r (findR_n hf).2).1
    refine h.of (st := eff (ps ++ qs) now (.waste n)) ((h.ro.mono (qs := qs) (Nat.le_succ k) (Int.le_refl _) (Nat.le_succ k)).drop n) (by simp only [eff]; omega) (by simp only [eff]; omega) (by simp [eff]) (.inl rfl) (h.a0.up (Nat.le_succ k)) (h.a1.up (Nat.le_succ k)) ?_
    simp only [eff, findR_some hf, held_app ok]
    exact h.a2.add (held_len _ _) (held_rg ok)
theorem mk_depth_le (a b c d : Pic) {t : Nat} (h1 : a.depth ≤ t) (h2 : b.depth ≤ t) (h3 : c.depth ≤ t) (h4 : d.depth ≤ t) : (Pic.mk a b c d).depth ≤ t + 1 := by
  unfold Pic.mk
  split
  · omega
  · simp only [Pic.depth]; omega
theorem ok_bundle {now : SS} {a b c d : Int} (h : StOk ps k now) (hr : refuse ps now (.bundle a b c d) = none) (hp : hasP (ps ++ qs) now (.bundle a b c d)) : StOk (ps ++ qs) (k + 1) (eff (ps ++ qs) now (.bundle a b c d)) := by
  unfold refuse at hr
  simp only at hr
  cases ha : findR now.rods a with
  | none => rw [ha] at hr; cases hr
  | some ra =>
  cases hb : findR now.rods b with
  | none => rw [ha, hb] at hr; cases hr
  | some rb =>
  cases hc : findR now.rods c with
  | none => rw [ha, hb, hc] at hr; cases hr
  | some rc =>
  cases hd : findR now.rods d with
  | none => rw [ha, hb, hc, hd] at hr; cases hr
  | some rd =>
    rw [ha, hb, hc, hd] at hr
    simp only at hr
    split at hr
    · cases hr
    split at hr
    · cases hr
    split at hr
    · cases hr
    rename_i _ u th
    have u := Decidable.not_not.mp u
    obtain ⟨⟨⟨PA, hPA, da⟩, tha, la, capa, _⟩, _⟩ := h.rod ra (findR_n ha).2
    obtain ⟨⟨⟨PB, hPB, db⟩, _⟩, _⟩ := h.rod rb (findR_n hb).2
    obtain ⟨⟨⟨PC, hPC, dc⟩, _⟩, _⟩ := h.rod rc (findR_n hc).2
    obtain ⟨⟨⟨PD, hPD, ddd⟩, _⟩, _⟩ := h.rod rd (findR_n hd).2
    unfold hasP at hp
    simp only [findR_some ha, findR_some hb, findR_some hc, findR_some hd, picF_of (hPA.app (qs := qs)), picF_of (hPB.app (qs := qs)), picF_of (hPC.app (qs := qs)), picF_of (hPD.app (qs := qs))] at hp
    have com1 := h.com1
    have hdep := mk_depth_le PA PB PC PD (t := ra.t.toNat) (by omega) (by omega) (by omega) (by omega)
    refine h.of (st := eff (ps ++ qs) now (.bundle a b c d)) ?_ (by simp only [eff]; omega) (by simp only [eff]; omega) (by simp [eff]) (.inr ⟨_, Pic.mk PA PB PC PD, rfl, ?_⟩) (h.a0.up (Nat.le_succ k)) (h.a1.up (Nat.le_succ k)) (h.a2.up (Nat.le_succ k))
    · simp only [eff, findR_some ha, findR_some hb, findR_some hc, findR_some hd, picF_of (hPA.app (qs := qs)), picF_of (hPB.app (qs := qs)), picF_of (hPC.app (qs := qs)), picF_of (hPD.app (qs := qs))]
      exact (((((h.ro.mono (qs := qs) (Nat.le_succ k) (Int.le_refl _) (Nat.le_refl k)).drop a).drop b).drop c).drop d).push ⟨⟨_, IsF.ix hp, by simp only; omega⟩, by simp only; omega, la, Int.lt_of_lt_of_le capa (p2_le (by omega)), com1⟩ rfl
    · simp only [findR_some ha, findR_some hb, findR_some hc, findR_some hd, picF_of (hPA.app (qs := qs)), picF_of (hPB.app (qs := qs)), picF_of (hPC.app (qs := qs)), picF_of (hPD.app (qs := qs))]
      exact IsF.ix hp
theorem eff_ok {now : SS} {dd : Deed} (h : StOk ps k now) (hr : refuse ps now dd = none) (hp : hasP (ps ++ qs) now dd) : StOk (ps ++ qs) (k + 1) (eff (ps ++ qs) now dd) := by
  cases dd with
  | gather c t l => exact ok_gather h hr hp
  | pull n s => exact ok_pull h hr
  | bundle a b c d => exact ok_bundle h hr hp
  | turn n t => exact ok_turn h hr hp
  | cut n l => exact ok_cut h hr
  | fuse a b => exact ok_fuse h hr
  | sell n => exact ok_sell h hr
  | waste n => exact ok_waste h hr
end
/-- the end of a deed that is not refused -/
theorem Does.fin {K : PySem.W.Frag} {H H' : Hp} {x : Ws} {dd : Deed} {Q : VK} {E : XK} (d : Does K H x dd Q E) (h : x.at K H) (hk : x.k < 1000) (hr : refuse x.ps x.now dd = none) {D' : Addr → Prop} {qs cs : List Pic} {B' : SB}
    (hF : FacesAt (He.ga K "Faces") H' x.p x.A D' (x.ps ++ qs)) (hB : Base cs (x.ps ++ qs)) (hl : cs.length ≤ x.bs.length + 1) (hp : hasP (x.ps ++ qs) x.now dd) (hS : ShopAt (He.ga K "Shop") H' x.s x.p B' (eff (x.ps ++ qs) x.now dd) (x.past ++ [x.now]) [])
    (ap : ∀ a ∈ B'.muts x.s, ¬ D' a) (kp : Keep x.foot H H') (lv : Live H H') (d2 : ∀ b, D' b → x.D b ∨ H b = none) (m : ∀ b ∈ B'.muts x.s, b ∈ x.B.muts x.s ∨ H b = none) : Q (ansV x.now dd) H' := by
  have hbl := h.bl
  have hpl := h.pl
  refine d.2 hr H' ⟨x.p, x.A, D', x.ps ++ qs, cs, x.s, B', eff (x.ps ++ qs) x.now dd, x.past ++ [x.now], [], x.k + 1⟩ ⟨hF, hB, hS, ap, fun st hst => ?_, by dsimp only; omega, by dsimp only; omega, by simp; omega⟩ ⟨rfl, rfl, rfl, ⟨qs, rfl⟩, kp, lv, d2, m⟩ rfl rfl rfl rfl hp
  rcases hst with rfl | z | z
  · exact eff_ok (h.ok _ (.inl rfl)) hr hp
  · rcases List.mem_append.mp z with z | z
    · exact (h.ok st (.inr (.inl z))).mono (Nat.le_succ _)
    · simp only [List.mem_singleton] at z
      rw [z]
      exact (h.ok _ (.inl rfl)).mono (Nat.le_succ _)
  · cases z
/-- .. where the store of faces stays as it is -/
theorem Does.fin0 {K : PySem.W.Frag} {H H' : Hp} {x : Ws} {dd : Deed} {Q : VK} {E : XK} (d : Does K H x dd Q E) (h : x.at K H) (hk : x.k < 1000) (hr : refuse x.ps x.now dd = none) {B' : SB} (hp : hasP x.ps x.now dd)
    (hS : ShopAt (He.ga K "Shop") H' x.s x.p B' (eff x.ps x.now dd) (x.past ++ [x.now]) []) (kp : Keep (fun b => b ∈ x.B.muts x.s) H H') (lv : Live H H') (m : ∀ b ∈ B'.muts x.s, b ∈ x.B.muts x.s ∨ H b = none) : Q (ansV x.now dd) H' := by
  have e : x.ps = x.ps ++ [] := (List.append_nil _).symm
  have hF : FacesAt (He.ga K "Faces") H' x.p x.A x.D x.ps := h.F.keep fun b o hb q => kp b o q fun z => h.ap b z hb
  refine d.fin h hk hr (D' := x.D) (qs := []) (cs := x.bs) (B' := B') (by rw [← e]; exact hF) (by rw [← e]; exact h.base) (Nat.le_succ _) (by rw [← e]; exact hp) (by rw [← e]; exact hS) (fun a ha => ?_) (kp.mono fun b hb => .inr hb) lv (fun b hb => .inl hb) m
  rcases m a ha with z | z
  · exact h.ap a z
  · exact h.F.nd z
/-- the shop's own things are written: the store of faces stands -/
theorem Ws.at.facesKeep {x : Ws} {K : PySem.W.Frag} {H H' : Hp} (h : x.at K H) (kp : Keep (fun b => b ∈ x.B.muts x.s) H H') : FacesAt (He.ga K "Faces") H' x.p x.A x.D x.ps := h.F.keep fun b o hb q => kp b o q fun z => h.ap b z hb
theorem Ws.at.apM {x : Ws} {K : PySem.W.Frag} {H : Hp} (h : x.at K H) {B' : SB} (m : ∀ b ∈ B'.muts x.s, b ∈ x.B.muts x.s ∨ H b = none) : ∀ a ∈ B'.muts x.s, ¬ x.D a := fun a ha => (m a ha).elim (h.ap a) h.F.nd
/-- the store has worked: the shop stands -/
theorem shopKeep {C CF : Addr} {H H' : Hp} {s p : Addr} {A : FA} {D : Addr → Prop} {ps : List Pic} {B : SB} {now : SS} {past ahead : List SS} (hS : ShopAt C H s p B now past ahead) (hF : FacesAt CF H p A D ps) (ap : ∀ a ∈ B.muts s, ¬ D a) (kp : Keep A.foot H H') : ShopAt C H' s p B now past ahead :=
  hS.stay (kp.tup hF) fun a ha o e => kp _ _ e (hF.ofFoot (ap a ha))
theorem apKeep {C : Addr} {H : Hp} {s p : Addr} {D D' : Addr → Prop} {B : SB} {now : SS} {past ahead : List SS} (hS : ShopAt C H s p B now past ahead) (ap : ∀ a ∈ B.muts s, ¬ D a) (d2 : ∀ b, D' b → D b ∨ H b = none) : ∀ a ∈ B.muts s, ¬ D' a := fun a ha => by
  obtain ⟨o, e, _⟩ := hS.there a ha
  exact fresh_not e (ap a ha) d2
/-- fresh behind a step is fresh ahead of it -/
theorem freshBack {F : Addr → Prop} {H H' : Hp} (kp : Keep F H H') (hf : ∀ b, F b → ∃ o, H' b = some o) {b : Addr} (z : H' b = none) : H b = none := by
  cases e : H b with
  | none => rfl
  | some o =>
    by_cases hb : F b
    · obtain ⟨o2, e2⟩ := hf b hb
      rw [e2] at z; cases z
    · rw [kp b o e hb] at z; cases z
/-- the shop as it is read (its rods may be locked) -/
structure ShopRd (C : Addr) (H : Hp) (s p : Addr) (B : SB) (now : SS) : Prop where
  ob : H s = some (.ins C B.dx (fsShop (.ref p) (.ref B.q.d) (.int now.com) (.ref B.q.am) (.ref B.q.b) (.ref B.q.dd) (.ref B.lb) (.ref B.la)))
  d : ∃ kvs, Rd H B.q.d (.dK kvs) ∧ RodsIn H kvs now.rods
theorem ShopAt.rd {C : Addr} {H : Hp} {s p : Addr} {B : SB} {now : SS} {past ahead : List SS} (h : ShopAt C H s p B now past ahead) : ShopRd C H s p B now := let ⟨kvs, a, b⟩ := h.cur.d; ⟨h.ob, kvs, .inl a, b⟩
theorem ShopRd.same {C : Addr} {H H' : Hp} {s p : Addr} {B : SB} {now : SS} (h : ShopRd C H s p B now) (e : Same H H') : ShopRd C H' s p B now := by
  obtain ⟨ob, kvs, a, b⟩ := h
  refine ⟨e _ _ ob, kvs, ?_, b.stay fun _ _ q => e _ _ q⟩
  rcases a with a | ⟨o, a⟩
  · exact .inl (e _ _ a)
  · exact .inr ⟨o, e _ _ a⟩
/-! ### sums of lists -/
def addTo (a v : List Int) (i : Nat) : List Int := a.mapIdx fun j x => x + (if j < i then v.getD j 0 else 0)
theorem addTo_zero (a v : List Int) : addTo a v 0 = a := by
  apply List.ext_getElem?
  intro i
  unfold addTo
  rw [List.getElem?_mapIdx]
  cases a[i]? <;> simp
theorem addTo_len (a v : List Int) (i : Nat) : (addTo a v i).length = a.length := by simp [addTo]
theorem addTo_get (a v : List Int) (i j : Nat) : (addTo a v i)[j]? = (a[j]?).map fun x => x + (if j < i then v.getD j 0 else 0) := by simp [addTo]
theorem addTo_at {a v : List Int} {i : Nat} (h : i < a.length) : (addTo a v i)[i]? = some (a.getD i 0) := by
  rw [addTo_get, if_neg (Nat.lt_irrefl i), List.getElem?_eq_getElem h]
  simp [h]
theorem addTo_step {a v : List Int} {i : Nat} (h : i < a.length) : (addTo a v i).set i (a.getD i 0 + v.getD i 0) = addTo a v (i + 1) := by
  apply List.ext_getElem?
  intro j
  rw [List.getElem?_set, addTo_get, addTo_get, addTo_len]
  by_cases e : i = j
  · subst e
    rw [if_pos rfl, if_pos h, if_pos (Nat.lt_succ_self i), List.getElem?_eq_getElem h]
    simp [h]
  · rw [if_neg e]
    by_cases hj : j < i
    · rw [if_pos hj, if_pos (by omega)]
    · rw [if_neg hj, if_neg (by omega)]
theorem addTo_end {a v : List Int} (ha : a.length = 10) (hv : v.length = 10) : addTo a v 10 = addL a v := by
  apply List.ext_getElem?
  intro j
  unfold addL
  rw [addTo_get, List.getElem?_zipWith]
  by_cases hj : j < 10
  · rw [List.getElem?_eq_getElem (by omega), List.getElem?_eq_getElem (by omega : j < v.length)]
    simp [hj, List.getD_eq_getElem?_getD, List.getElem?_eq_getElem (by omega : j < v.length)]
  · rw [List.getElem?_eq_none (by omega)]
    simp [List.getElem?_eq_none (by omega : v.length ≤ j)]
theorem addTo_rg {a v : List Int} {i : Nat} : True := trivial
def spDeed (K : PySem.W.Frag) (n : Nat) (mk : List Int → Option Deed) : Sp := fun vs H Q E => ∃ x : Ws, ∃ l : List Int, ∃ dd : Deed, vs = .ref x.s :: l.map V.int ∧ l.length = n ∧ mk l = some dd ∧ x.at K H ∧ x.k < 1000 ∧ Does K H x dd Q E
theorem spDeed_len {K : PySem.W.Frag} {n : Nat} {mk : List Int → Option Deed} {vs : List V} {H : Hp} {Q : VK} {E : XK} (h : spDeed K n mk vs H Q E) : vs.length = n + 1 := by
  obtain ⟨x, l, dd, rfl, hl, _⟩ := h
  simp [hl]
def mkGather : List Int → Option Deed | [c, t, l] => some (.gather c t l) | _ => none
def mkPull : List Int → Option Deed | [r, k] => some (.pull r k) | _ => none
def mkBundle : List Int → Option Deed | [a, b, c, d] => some (.bundle a b c d) | _ => none
def mkTurn : List Int → Option Deed | [r, k] => some (.turn r k) | _ => none
def mkCut : List Int → Option Deed | [r, k] => some (.cut r k) | _ => none
def mkFuse : List Int → Option Deed | [r, k] => some (.fuse r k) | _ => none
def mkSell : List Int → Option Deed | [r] => some (.sell r) | _ => none
def mkWaste : List Int → Option Deed | [r] => some (.waste r) | _ => none
theorem three {l : List Int} (h : l.length = 3) : ∃ a b c, l = [a, b, c] := by
  match l, h with
  | [a, b, c], _ => exact ⟨a, b, c, rfl⟩
theorem two {l : List Int} (h : l.length = 2) : ∃ a b, l = [a, b] := by
  match l, h with
  | [a, b], _ => exact ⟨a, b, rfl⟩
theorem four4 {l : List Int} (h : l.length = 4) : ∃ a b c d, l = [a, b, c, d] := by
  match l, h with
  | [a, b, c, d], _ => exact ⟨a, b, c, d, rfl⟩
theorem one1 {l : List Int} (h : l.length = 1) : ∃ a, l = [a] := by
  match l, h with
  | [a], _ => exact ⟨a, rfl⟩
abbrev shapesL : List (Str × Int) := [("gather", 3), ("pull", 2), ("bundle", 4), ("turn", 2), ("cut", 2), ("fuse", 2), ("sell", 1), ("waste", 1)]
def isIS : PyData → Bool
  | .int _ => true
  | .str _ => true
  | _ => false
def numOk : PyData → Bool
  | .int i => decide (0 ≤ i ∧ i ≤ 999999999999999999)
  | _ => false
def isDeed : List PyData → Bool
  | .str z :: r => decide (shapesL.lookup z = some (r.length : Int)) && r.all numOk
  | _ => false
def spIsDeed : Sp := fun vs H Q _ => ∃ a xs ds, vs = [.ref a] ∧ H a = some (.tup xs) ∧ DvAll H xs ds ∧ (∀ d ∈ ds, isIS d = true) ∧ ∀ H', Same H H' → Q (.bl (isDeed ds)) H'
def spRod (C N : Addr) : Sp := fun vs H Q E => ∃ s p B now, ∃ n : Int, vs = [.ref s, .int n] ∧ ShopRd C H s p B now ∧ (findR now.rods n = none → E (.ref N) none H) ∧ (∀ r a, findR now.rods n = some r → H a = some (.tup [.int r.f, .int r.t, .int r.l]) → Q (.ref a) H)
def spKept (C : Addr) : Sp := fun vs H Q E => ∃ s p B now past ahead, vs = [.ref s] ∧ ShopAt C H s p B now past ahead ∧ ∀ H' t q, Same H H' → H' t = some (.tup (keptV q now)) → SnapAt H' q now → q.muts.Nodup → (∀ a ∈ q.muts, H a = none) → H t = none → Q (.ref t) H'
def spBegan (C : Addr) : Sp := fun vs H Q E => ∃ s p B now past ahead, ∃ dt : Addr, ∃ dd : Deed, vs = [.ref s, .ref dt] ∧ ShopAt C H s p B now past ahead ∧ H dt = some (.tup dd.vals) ∧ past.length < 100000 ∧ now.deeds.length < 100000 ∧
  ∀ H' B', ShopAt C H' s p B' { now with deeds := now.deeds ++ [dd] } (past ++ [now]) [] → Keep (fun b => b ∈ B.muts s) H H' → Live H H' → (∀ b ∈ B'.muts s, b ∈ B.muts s ∨ H b = none) → Q .non H'
theorem deed_dv {H : Hp} {dt : Addr} {dd : Deed} (h : H dt = some (.tup dd.vals)) : Dv H (.ref dt) dd.data := .tup h (.cons (.str _) (DvAll.ints _))
def spNewRod (C : Addr) : Sp := fun vs H Q E => ∃ s p B now past ahead, ∃ f t l : Int, vs = [.ref s, .int f, .int t, .int l] ∧ ShopAt C H s p B now past ahead ∧ findR now.rods now.com = none ∧ now.rods.length < 100000 ∧
  ∀ H', ShopAt C H' s p B { now with rods := now.rods ++ [⟨now.com, f, t, l⟩], com := now.com + 1 } past ahead → Keep (fun b => b ∈ B.muts s) H H' → Live H H' → Q (.int now.com) H'
def spHeld (K : PySem.W.Frag) : Sp := fun vs H Q E => ∃ s p A D ps B now k, ∃ n : Int, vs = [.ref s, .int n] ∧ FacesAt (He.ga K "Faces") H p A D ps ∧ ShopRd (He.ga K "Shop") H s p B now ∧ StOk ps k now ∧ k ≤ 1000 ∧ (findR now.rods n = none → E (.ref (He.ga K "NoRod")) none H) ∧
  (∀ r, findR now.rods n = some r → ∀ H' l, Same H H' → H l = none → H' l = some (.lst ((heldL ps r).map V.int)) → Q (.ref l) H')
def spGone (K : PySem.W.Frag) : Sp := fun vs H Q E => ∃ x : Ws, ∃ n : Int, ∃ dd : Deed, (vs = [.ref x.s, .int n, .str "sell", .int 1] ∧ dd = .sell n ∨ vs = [.ref x.s, .int n, .str "waste", .int 2] ∧ dd = .waste n) ∧ x.at K H ∧ x.k < 1000 ∧ Does K H x dd Q E
theorem gone_len {K : PySem.W.Frag} {vs : List V} {H : Hp} {Q : VK} {E : XK} (h : spGone K vs H Q E) : vs.length = 4 := by
  obtain ⟨x, n, dd, ⟨rfl, _⟩ | ⟨rfl, _⟩, _⟩ := h <;> rfl
theorem refuse_none {ps : List Pic} {st : SS} {a b c d : Int} (h : findR st.rods a = none ∨ findR st.rods b = none ∨ findR st.rods c = none ∨ findR st.rods d = none) : refuse ps st (.bundle a b c d) = some ("NoRod" : Str) := by
  unfold refuse
  simp only
  cases ha : findR st.rods a with
  | none => rfl
  | some ra => cases hb : findR st.rods b with
    | none => rfl
    | some rb => cases hc : findR st.rods c with
      | none => rfl
      | some rc => cases hd : findR st.rods d with
        | none => rfl
        | some rd => rw [ha, hb, hc, hd] at h; rcases h with h | h | h | h <;> cases h
theorem findR_drop {rs : List Rod} {n m : Int} (h : n ≠ m) : findR (dropR rs m) n = findR rs n := by
  unfold findR dropR
  rw [List.find?_filter]
  congr 1
  funext r
  by_cases e : r.n = n
  · simp [e, h]
  · simp [e]
def dropAll (rs : List Rod) (ns : List Int) : List Rod := ns.foldl dropR rs
theorem dropAll_find {rs : List Rod} {n : Int} : ∀ {ns : List Int} {rs : List Rod}, n ∉ ns → findR (dropAll rs ns) n = findR rs n
  | [], _, _ => rfl
  | m :: ns, rs, h => by
    simp only [List.mem_cons, not_or] at h
    show findR (dropAll (dropR rs m) ns) n = _
    rw [dropAll_find (rs := rs) h.2, findR_drop h.1]
theorem RO.dropAll {ps : List Pic} {k : Nat} {c : Int} {m : Nat} : ∀ {ns : List Int} {rods : List Rod}, RO ps k c m rods → RO ps k c m (Mur.dropAll rods ns)
  | [], _, h => h
  | n :: ns, _, h => (h.drop n).dropAll
def noneYet : SS := ⟨[], 1, List.replicate 10 0, List.replicate 10 0, List.replicate 10 0, [], []⟩
def spInitS (C : Addr) : Sp := fun vs H Q _ => ∃ s dx p : Addr, vs = [.ref s, .ref p] ∧ H s = some (.ins C dx []) ∧ ∀ H' B, (∀ b o, H b = some o → b ≠ s → H' b = some o) → ShopAt C H' s p B noneYet [] [] → (∀ b ∈ B.muts s, b = s ∨ H b = none) → Q .non H'
theorem z_mkShop {C p : Addr} {σ : L2.St} {H : Hp} {Q : VK} {E : XK} {t : TA} (k : t σ H fun vs H1 => vs = [.ref p] ∧ ∀ H' s B, Same H1 H' → ShopAt C H' s p B noneYet [] [] → (∀ b ∈ B.muts s, H1 b = none) → Q (.ref s) H') (mono : ∀ (R R' : List V → Hp → Prop), (∀ vs H1, R vs H1 → R' vs H1) → t σ H R → t σ H R') : tMake C (spInitS C) [] E t σ H Q := by
  refine mono _ _ (fun vs H1 ⟨e, k⟩ => ?_) k
  subst e
  intro x dx hx hdx hne
  refine ⟨x, dx, p, rfl, upd_same, fun H' B h1 h2 h3 => ⟨rfl, k H' x B (fun b o e => h1 b o (by rw [upd_ne (ne_of_none e hx), upd_ne (ne_of_none e hdx)]; exact e) (ne_of_none e hx)) h2 fun b hb => ?_⟩⟩
  rcases h3 b hb with rfl | z
  · exact hx
  · by_cases e1 : b = x
    · rw [e1]; exact hx
    · rw [upd_ne e1] at z
      by_cases e2 : b = dx
      · rw [e2]; exact hdx
      · rw [upd_ne e2] at z; exact z
def insideTo (ps : List Pic) (rs : List Rod) : List Int := rs.foldl (fun acc r => addL acc (heldL ps r)) (List.replicate 10 0)
def glassRow (ps : List Pic) (st : SS) (j : Nat) : List Int := [st.a0.getD j 0, (insideTo ps st.rods).getD j 0, st.a1.getD j 0, st.a2.getD j 0]
def tupI (l : List Int) : PyData := .tuple (l.map PyData.int)
def glassD (ps : List Pic) (st : SS) : List PyData := (List.range 10).map fun j => tupI (glassRow ps st j)
def spGlass (K : PySem.W.Frag) : Sp := fun vs H Q E => ∃ x : Ws, vs = [.ref x.s] ∧ x.at K H ∧ ∀ H' l vs', Same H H' → H l = none → H' l = some (.lst vs') → DvAll H' vs' (glassD x.ps x.now) → (∀ v ∈ vs', ∃ t, v = .ref t ∧ H t = none) → Q (.ref l) H'
theorem insideTo_snoc (ps : List Pic) (rs : List Rod) (r : Rod) : insideTo ps (rs ++ [r]) = addL (insideTo ps rs) (heldL ps r) := by simp [insideTo, List.foldl_append]
theorem inside_len (ps : List Pic) : ∀ rs : List Rod, (insideTo ps rs).length = 10 := by
  have : ∀ (rs : List Rod) (acc : List Int), acc.length = 10 → (rs.foldl (fun acc r => addL acc (heldL ps r)) acc).length = 10 := by
    intro rs
    induction rs with
    | nil => intro acc h; exact h
    | cons r rs ih => intro acc h; exact ih _ (by simp [addL, h, held_len])
  exact fun rs => this rs _ (by simp)
theorem dvTupI {H : Hp} {t : Addr} {l : List Int} (h : H t = some (.tup (l.map V.int))) : Dv H (.ref t) (tupI l) := .tup h (DvAll.ints l)
def spBundled (K : PySem.W.Frag) : Sp := fun vs H Q E => ∃ x : Ws, vs = [.ref x.s] ∧ x.at K H ∧ ∀ H' l, Same H H' → H l = none → H' l = some (.lst (x.now.bun.map V.int)) → Q (.ref l) H'
def rodRow (r : Rod) : List Int := [r.n, r.f, r.t, r.l]
def rowsD (rs : List Rod) : List PyData := rs.map fun r => tupI (rodRow r)
def lookD (ps : List Pic) (st : SS) : PyData := .tuple [.list (rowsD st.rods), .int st.com, .list (glassD ps st), .list (st.bun.map PyData.int)]
/-- what look() tells, in the heap -/
structure LookAt (H : Hp) (t lr lg lb : Addr) (vr vg : List V) (ps : List Pic) (st : SS) : Prop where
  t : H t = some (.tup [.ref lr, .int st.com, .ref lg, .ref lb])
  r : H lr = some (.lst vr)
  dr : DvAll H vr (rowsD st.rods)
  g : H lg = some (.lst vg)
  dg : DvAll H vg (glassD ps st)
  b : H lb = some (.lst (st.bun.map V.int))
theorem LookAt.dv {H : Hp} {t lr lg lb : Addr} {vr vg : List V} {ps : List Pic} {st : SS} (h : LookAt H t lr lg lb vr vg ps st) : Dv H (.ref t) (lookD ps st) :=
  .tup h.t (.cons (.lst h.r h.dr) (.cons (.int _) (.cons (.lst h.g h.dg) (.cons (.lst h.b (DvAll.ints _)) .nil))))
theorem LookAt.same {H H' : Hp} {t lr lg lb : Addr} {vr vg : List V} {ps : List Pic} {st : SS} (h : LookAt H t lr lg lb vr vg ps st) (s : Same H H') : LookAt H' t lr lg lb vr vg ps st :=
  ⟨s _ _ h.t, s _ _ h.r, dvAll_same s h.dr, s _ _ h.g, dvAll_same s h.dg, s _ _ h.b⟩
theorem rows_flat : ∀ rs : List Rod, flatAll (rowsD rs) = true
  | [] => rfl
  | r :: rs => by simp only [rowsD, List.map_cons, flatAll]; rw [show flatAll (rs.map fun r => tupI (rodRow r)) = true from rows_flat rs]; simp [tupI, flat, flat_ints]
def spLook (K : PySem.W.Frag) : Sp := fun vs H Q E => ∃ x : Ws, vs = [.ref x.s] ∧ x.at K H ∧ x.now.rods.length < 64 ∧ ∀ H' t lr lg lb vr vg, Same H H' → LookAt H' t lr lg lb vr vg x.ps x.now → H t = none → H lr = none → H lg = none → H lb = none → Q (.ref t) H'
theorem sorted_same {ys ks : List Int} (hp : ys.Perm ks) (h1 : ys.Pairwise (· ≤ ·)) (h2 : ks.Pairwise (· < ·)) : ys = ks :=
  hp.eq_of_pairwise (fun a b _ _ h1 h2 => Int.le_antisymm h1 h2) h1 (h2.imp fun h => Int.le_of_lt h)
def Deed.items (d : Deed) : List PyData := .str d.name :: d.args.map PyData.int
theorem nums_of : ∀ {r : List PyData}, r.all numOk = true → ∃ l : List Int, r = l.map PyData.int
  | [], _ => ⟨[], rfl⟩
  | d :: r, h => by
    simp only [List.all_cons, Bool.and_eq_true] at h
    obtain ⟨l, e⟩ := nums_of h.2
    have h1 := h.1
    cases d with
    | int i => exact ⟨i :: l, by rw [e]; rfl⟩
    | _ => simp [numOk] at h1
theorem deed_of {ds : List PyData} (h : isDeed ds = true) : ∃ dd : Deed, ds = dd.items := by
  match ds, h with
  | .str z :: r, h =>
    have h : (decide (shapesL.lookup z = some (r.length : Int)) && r.all numOk) = true := h
    rw [Bool.and_eq_true, decide_eq_true_eq] at h
    obtain ⟨h1, h2⟩ := h
    obtain ⟨l, rfl⟩ := nums_of h2
    rw [List.length_map] at h1
    simp only [shapesL, List.lookup_cons, List.lookup_nil] at h1
    have key : ∀ {x : Str} {n : Int} {rest : Option Int}, (match z == x with | true => some n | false => rest) = some (l.length : Int) → (z = x ∧ (l.length : Int) = n) ∨ rest = some (l.length : Int) := fun {x n rest} e => by
      cases hb : z == x with
      | true => rw [hb] at e; exact .inl ⟨by simpa using hb, (Option.some.inj e).symm⟩
      | false => rw [hb] at e; exact .inr e
    rcases key h1 with ⟨rfl, e⟩ | h1
    · obtain ⟨a, b, c, rfl⟩ := three (l := l) (by omega)
      exact ⟨.gather a b c, rfl⟩
    rcases key h1 with ⟨rfl, e⟩ | h1
    · obtain ⟨a, b, rfl⟩ := two (l := l) (by omega)
      exact ⟨.pull a b, rfl⟩
    rcases key h1 with ⟨rfl, e⟩ | h1
    · obtain ⟨a, b, c, d, rfl⟩ := four4 (l := l) (by omega)
      exact ⟨.bundle a b c d, rfl⟩
    rcases key h1 with ⟨rfl, e⟩ | h1
    · obtain ⟨a, b, rfl⟩ := two (l := l) (by omega)
      exact ⟨.turn a b, rfl⟩
    rcases key h1 with ⟨rfl, e⟩ | h1
    · obtain ⟨a, b, rfl⟩ := two (l := l) (by omega)
      exact ⟨.cut a b, rfl⟩
    rcases key h1 with ⟨rfl, e⟩ | h1
    · obtain ⟨a, b, rfl⟩ := two (l := l) (by omega)
      exact ⟨.fuse a b, rfl⟩
    rcases key h1 with ⟨rfl, e⟩ | h1
    · obtain ⟨a, rfl⟩ := one1 (l := l) (by omega)
      exact ⟨.sell a, rfl⟩
    rcases key h1 with ⟨rfl, e⟩ | h1
    · obtain ⟨a, rfl⟩ := one1 (l := l) (by omega)
      exact ⟨.waste a, rfl⟩
    cases h1
theorem vals_ints {H : Hp} : ∀ {l : List Int} {vs : List V}, DvAll H vs (l.map PyData.int) → vs = l.map V.int
  | [], _, .nil => rfl
  | i :: l, _, .cons h t => by
    cases h
    rw [vals_ints t]; rfl
theorem vals_deed {H : Hp} {xs : List V} {dd : Deed} (h : DvAll H xs dd.items) : xs = dd.vals := by
  cases h with
  | cons h t =>
    cases h
    rw [vals_ints t]; rfl
def spDo (K : PySem.W.Frag) : Sp := fun vs H Q E => ∃ x : Ws, ∃ a xs ds, vs = [.ref x.s, .ref a] ∧ H a = some (.tup xs) ∧ DvAll H xs ds ∧ (∀ d ∈ ds, isIS d = true) ∧ x.at K H ∧ x.k < 1000 ∧ (isDeed ds = false → ∀ H', Same H H' → E (.ref (He.ga K "BadDeed")) none H') ∧ (∀ dd : Deed, ds = dd.items → isDeed ds = true → Does K H x dd Q E)
theorem row_at {H : Hp} {vr : List V} {rs : List Rod} (h : DvAll H vr (rowsD rs)) {i : Nat} {v : V} (e : vr[i]? = some v) : ∃ r t, rs[i]? = some r ∧ v = .ref t ∧ H t = some (.tup [.int r.n, .int r.f, .int r.t, .int r.l]) := by
  obtain ⟨d, e1, e2⟩ := h.get e
  unfold rowsD at e1
  rw [List.getElem?_map] at e1
  cases e3 : rs[i]? with
  | none => rw [e3] at e1; cases e1
  | some r =>
    rw [e3] at e1
    obtain rfl := Option.some.inj e1
    cases e2 with
    | @tup t xs _ ht ha =>
    obtain rfl : xs = (rodRow r).map V.int := vals_ints ha
    exact ⟨r, t, rfl, rfl, ht⟩
theorem rows_len {H : Hp} {vr : List V} {rs : List Rod} (h : DvAll H vr (rowsD rs)) : vr.length = rs.length := by rw [h.len]; simp [rowsD]
/-- a new list of ints -/
def IntsAt (H : Hp) (L : Addr) (ns : List Int) : Prop := H L = some (.lst (ns.map V.int))
/-! shapes of data that are compared -/
theorem lay_ints : ∀ ns : List Int, PyData.canLayAll0 (ns.map PyData.int) = true
  | [] => rfl
  | n :: ns => by simp [PyData.canLayAll0, PyData.canLay0, lay_ints ns]
theorem dep_ints : ∀ ns : List Int, PyData.depthAll (ns.map PyData.int) = 0
  | [] => rfl
  | n :: ns => by simp [PyData.depthAll, PyData.depth, dep_ints ns]
theorem shaped_ints (ns : List Int) : SeqAt.shaped (.list (ns.map PyData.int)) = true := by simp [SeqAt.shaped, PyData.canLay0, lay_ints, PyData.depth, dep_ints]
theorem rowsD_cons (r : Rod) (rs : List Rod) : rowsD (r :: rs) = .tuple [.int r.n, .int r.f, .int r.t, .int r.l] :: rowsD rs := rfl
theorem lay_rows : ∀ rs : List Rod, PyData.canLayAll0 (rowsD rs) = true
  | [] => rfl
  | r :: rs => by
    rw [rowsD_cons, PyData.canLayAll0, lay_rows rs]
    rfl
theorem dep_rows : ∀ rs : List Rod, PyData.depthAll (rowsD rs) ≤ 1
  | [] => Nat.zero_le _
  | r :: rs => by
    have := dep_rows rs
    rw [rowsD_cons, PyData.depthAll]
    simp only [PyData.depth, PyData.depthAll]
    omega
theorem shaped_rows (rs : List Rod) : SeqAt.shaped (.list (rowsD rs)) = true := by
  have := dep_rows rs
  simp [SeqAt.shaped, PyData.canLay0, lay_rows, PyData.depth]; omega
theorem eqv_rows_nil (rs : List Rod) : PyData.eqv (.list (rowsD rs)) (.list []) = decide (rs = []) := by
  cases rs <;> simp [rowsD, PyData.eqv, PyData.eqvAll]
theorem eqv_ints_nil (ns : List Int) : PyData.eqv (.list (ns.map PyData.int)) (.list []) = decide (ns = []) := by
  cases ns <;> simp [PyData.eqv, PyData.eqvAll]
theorem z_ansS {tt : TT} {σ : L2.St} {H : Hp} {TQ : Bool → Hp → Prop} (b : Bool) (h : ∀ R : Bool → Hp → Prop, (∀ H', Same H H' → R b H') → tt σ H R) (k : ∀ H', Same H H' → TQ b H') : tt σ H TQ := h _ k
def menuN : List Str := ["gather", "bundle", "turn", "pull", "cut", "fuse", "sell", "waste"]
/-- the refusals that a deed may meet -/
theorem refuse_in {ps : List Pic} {st : SS} {dd : Deed} {c : Str} (h : refuse ps st dd = some c) : c ∈ (["BadColour", "BadThickness", "BadLength", "NoRod", "BadSteps", "TooThin", "Twice", "Unlike", "TooThick", "BadTurn"] : List Str) := by
  have fin : ∀ {p : Prop} [Decidable p] {x c : Str} {o : Option Str}, (if p then some x else o) = some c → c = x ∨ o = some c := fun {p _ x c o} e => by
    by_cases hp : p
    · rw [if_pos hp] at e; exact .inl (Option.some.inj e).symm
    · rw [if_neg hp] at e; exact .inr e
  have nn : ∀ {c : Str} {P : Prop}, (none : Option Str) = some c → P := fun e => by cases e
  cases dd with
  | gather a t l =>
    unfold refuse at h; simp only at h
    rcases fin h with rfl | h
    · simp
    rcases fin h with rfl | h
    · simp
    rcases fin h with rfl | h
    · simp
    exact nn h
  | pull n k =>
    unfold refuse at h; simp only at h
    cases e : findR st.rods n with
    | none => rw [e] at h; obtain rfl := (Option.some.inj h); simp
    | some r =>
      rw [e] at h; simp only at h
      rcases fin h with rfl | h
      · simp
      rcases fin h with rfl | h
      · simp
      exact nn h
  | bundle a b c' d =>
    by_cases hn : findR st.rods a = none ∨ findR st.rods b = none ∨ findR st.rods c' = none ∨ findR st.rods d = none
    · rw [refuse_none hn] at h; obtain rfl := (Option.some.inj h); simp
    · simp only [not_or] at hn
      obtain ⟨h1, h2, h3, h4⟩ := hn
      unfold refuse at h; simp only at h
      cases e1 : findR st.rods a with
      | none => exact absurd e1 h1
      | some ra => cases e2 : findR st.rods b with
        | none => exact absurd e2 h2
        | some rb => cases e3 : findR st.rods c' with
          | none => exact absurd e3 h3
          | some rc => cases e4 : findR st.rods d with
            | none => exact absurd e4 h4
            | some rd =>
              rw [e1, e2, e3, e4] at h; simp only at h
              rcases fin h with rfl | h
              · simp
              rcases fin h with rfl | h
              · simp
              rcases fin h with rfl | h
              · simp
              exact nn h
  | turn n t =>
    unfold refuse at h; simp only at h
    cases e : findR st.rods n with
    | none => rw [e] at h; obtain rfl := (Option.some.inj h); simp
    | some r =>
      rw [e] at h; simp only at h
      rcases fin h with rfl | h
      · simp
      exact nn h
  | cut n l =>
    unfold refuse at h; simp only at h
    cases e : findR st.rods n with
    | none => rw [e] at h; obtain rfl := (Option.some.inj h); simp
    | some r =>
      rw [e] at h; simp only at h
      rcases fin h with rfl | h
      · simp
      exact nn h
  | fuse a b =>
    unfold refuse at h; simp only at h
    cases e : findR st.rods a with
    | none => rw [e] at h; obtain rfl := (Option.some.inj h); simp
    | some r =>
      cases e2 : findR st.rods b with
      | none => rw [e, e2] at h; obtain rfl := (Option.some.inj h); simp
      | some r2 =>
        rw [e, e2] at h; simp only at h
        rcases fin h with rfl | h
        · simp
        rcases fin h with rfl | h
        · simp
        exact nn h
  | sell n =>
    unfold refuse at h; simp only at h
    cases e : findR st.rods n with
    | none => rw [e] at h; obtain rfl := (Option.some.inj h); simp
    | some r => rw [e] at h; exact nn h
  | waste n =>
    unfold refuse at h; simp only at h
    cases e : findR st.rods n with
    | none => rw [e] at h; obtain rfl := (Option.some.inj h); simp
    | some r => rw [e] at h; exact nn h
theorem Gone.refl {x : Ws} {H H' : Hp} (s : Same H H') : Gone H x H' x := ⟨rfl, rfl, rfl, ⟨[], (List.append_nil _).symm⟩, s.keep, s.live, fun _ h => .inl h, fun _ h => .inl h⟩
theorem Gone.trans {x y z : Ws} {H H1 H2 : Hp} (a : Gone H x H1 y) (b : Gone H1 y H2 z) : Gone H x H2 z := by
  obtain ⟨q1, e1⟩ := a.ext
  obtain ⟨q2, e2⟩ := b.ext
  have bf : ∀ c, y.foot c → x.foot c ∨ H c = none := fun c hc => by
    rcases hc with hc | hc
    · rw [a.A] at hc; exact .inl (.inl hc)
    · exact (a.m c hc).imp .inr id
  refine ⟨b.p.trans a.p, b.A.trans a.A, b.s.trans a.s, ⟨q1 ++ q2, by rw [e2, e1, List.append_assoc]⟩, fun c o e n => b.keep c o (a.keep c o e n) fun z => (bf c z).elim n fun y => (by rw [y] at e; cases e), a.live.trans b.live, fun c hc => ?_, fun c hc => ?_⟩
  · rcases b.D c hc with h | h
    · exact a.D c h
    · exact .inr (a.live c h)
  · rcases b.m c hc with h | h
    · exact a.m c h
    · exact .inr (a.live c h)
theorem items_inj {d e : Deed} (h : d.items = e.items) : d = e := by
  cases d <;> cases e <;> simp [Deed.items, Deed.name, Deed.args] at h <;> first
    | exact absurd h.1 (by decide)
    | (obtain ⟨h1, h2, h3, h4⟩ := h; subst h1; subst h2; subst h3; subst h4; rfl)
    | (obtain ⟨h1, h2, h3⟩ := h; subst h1; subst h2; subst h3; rfl)
    | (obtain ⟨h1, h2⟩ := h; subst h1; subst h2; rfl)
    | (subst h; rfl)
theorem items_is (d : Deed) : ∀ x ∈ d.items, isIS x = true := by
  intro x hx
  unfold Deed.items at hx
  rcases List.mem_cons.mp hx with rfl | hx
  · rfl
  · obtain ⟨i, _, rfl⟩ := List.mem_map.mp hx
    rfl
def Done (H' : Hp) (r : Addr) (x y : Ws) (dd : Deed) : Prop :=
  (H' r = some (.tup [.str "refused", .non]) ∧ y = x ∧ (isDeed dd.items = false ∨ (refuse x.ps x.now dd).isSome = true)) ∨
  (H' r = some (.tup [.str "", ansV x.now dd]) ∧ isDeed dd.items = true ∧ refuse x.ps x.now dd = none ∧ y.now = eff y.ps x.now dd ∧ y.past = x.past ++ [x.now] ∧ y.ahead = [] ∧ y.k = x.k + 1 ∧ hasP y.ps x.now dd)
def spDone (K : PySem.W.Frag) : Sp := fun vs H Q _ => ∃ x : Ws, ∃ t, ∃ dd : Deed, vs = [.ref x.s, .ref t] ∧ x.at K H ∧ x.k < 1000 ∧ H t = some (.tup dd.vals) ∧ ∀ H' r y, y.at K H' → Gone H x H' y → y.k ≤ x.k + 1 → Done H' r x y dd → Q (.ref r) H'
end Mur
/-! What is due of deeds: told stands. -/
namespace Mur
open PySem hiding start
open PySem.Spec L2
open PyProof.Rows hiding St
section
variable {ps qs : List Pic} {k : Nat} {st : SS} {dd : Deed} {r : Rod}
theorem RodOk.pic_app (h : RodOk ps k r) : picF (ps ++ qs) r.f = picF ps r.f := by
  obtain ⟨P, hP, _⟩ := h.pic
  rw [picF_of hP, picF_of (hP.app (qs := qs))]
theorem RodOk.depth_app (h : RodOk ps k r) : depthF (ps ++ qs) r.f = depthF ps r.f := by
  obtain ⟨P, hP, _⟩ := h.pic
  rw [depthF_of hP, depthF_of (hP.app (qs := qs))]
theorem StOk.find (h : StOk ps k st) {n : Int} (hf : findR st.rods n = some r) : RodOk ps k r := (h.rod r (findR_n hf).2).1
theorem refuse_app (h : StOk ps k st) : refuse (ps ++ qs) st dd = refuse ps st dd := by
  cases dd with
  | pull n m =>
    unfold refuse
    simp only
    cases e : findR st.rods n with
    | none => rfl
    | some r => simp only [(h.find e).depth_app]
  | _ => rfl
theorem found {n : Int} {c : Str} {f : Rod → Option Str} (h : (match findR st.rods n with | none => some c | some r => f r) = none) : ∃ r, findR st.rods n = some r := by
  cases e : findR st.rods n with
  | none => rw [e] at h; cases h
  | some r => exact ⟨r, rfl⟩
theorem hasP_app (h : StOk ps k st) (hr : refuse ps st dd = none) (hp : hasP ps st dd) : hasP (ps ++ qs) st dd := by
  cases dd with
  | gather c t l => exact List.mem_append_left _ hp
  | turn n t =>
    obtain ⟨r, e⟩ := found (st := st) hr
    unfold hasP at hp ⊢
    simp only [findR_some e, (h.find e).pic_app] at hp ⊢
    exact List.mem_append_left _ hp
  | bundle a b c d =>
    by_cases hn : findR st.rods a = none ∨ findR st.rods b = none ∨ findR st.rods c = none ∨ findR st.rods d = none
    · rw [refuse_none hn] at hr; cases hr
    · simp only [not_or] at hn
      obtain ⟨h1, h2, h3, h4⟩ := hn
      obtain ⟨r1, e1⟩ := Option.ne_none_iff_exists'.mp h1
      obtain ⟨r2, e2⟩ := Option.ne_none_iff_exists'.mp h2
      obtain ⟨r3, e3⟩ := Option.ne_none_iff_exists'.mp h3
      obtain ⟨r4, e4⟩ := Option.ne_none_iff_exists'.mp h4
      unfold hasP at hp ⊢
      simp only [findR_some e1, findR_some e2, findR_some e3, findR_some e4, (h.find e1).pic_app, (h.find e2).pic_app, (h.find e3).pic_app, (h.find e4).pic_app] at hp ⊢
      exact List.mem_append_left _ hp
  | _ => trivial
theorem eff_app (h : StOk ps k st) (hr : refuse ps st dd = none) (hp : hasP ps st dd) : eff (ps ++ qs) st dd = eff ps st dd := by
  cases dd with
  | gather c t l => unfold eff; simp only [ix_app (qs := qs) (show Pic.p c ∈ ps from hp)]
  | turn n t =>
    obtain ⟨r, e⟩ := found (st := st) hr
    unfold hasP at hp
    simp only [findR_some e] at hp
    unfold eff
    simp only [findR_some e, (h.find e).pic_app, ix_app (qs := qs) hp]
  | bundle a b c d =>
    by_cases hn : findR st.rods a = none ∨ findR st.rods b = none ∨ findR st.rods c = none ∨ findR st.rods d = none
    · rw [refuse_none hn] at hr; cases hr
    · simp only [not_or] at hn
      obtain ⟨h1, h2, h3, h4⟩ := hn
      obtain ⟨r1, e1⟩ := Option.ne_none_iff_exists'.mp h1
      obtain ⟨r2, e2⟩ := Option.ne_none_iff_exists'.mp h2
      obtain ⟨r3, e3⟩ := Option.ne_none_iff_exists'.mp h3
      obtain ⟨r4, e4⟩ := Option.ne_none_iff_exists'.mp h4
      unfold hasP at hp
      simp only [findR_some e1, findR_some e2, findR_some e3, findR_some e4] at hp
      unfold eff
      simp only [findR_some e1, findR_some e2, findR_some e3, findR_some e4, (h.find e1).pic_app, (h.find e2).pic_app, (h.find e3).pic_app, (h.find e4).pic_app, ix_app (qs := qs) hp]
  | sell n =>
    obtain ⟨r, e⟩ := found (st := st) hr
    unfold eff
    simp only [findR_some e, held_app (h.find e)]
  | waste n =>
    obtain ⟨r, e⟩ := found (st := st) hr
    unfold eff
    simp only [findR_some e, held_app (h.find e)]
  | _ => rfl
/-! ### the glass in rods -/
def inJ (ps : List Pic) (rs : List Rod) (j : Nat) : Int := (rs.map fun r => (heldL ps r).getD j 0).sum
theorem addL_get {a b : List Int} (ha : a.length = 10) (hb : b.length = 10) (j : Nat) : (addL a b).getD j 0 = a.getD j 0 + b.getD j 0 := by
  simp only [List.getD_eq_getElem?_getD, addL, List.getElem?_zipWith]
  by_cases hj : j < 10
  · rw [List.getElem?_eq_getElem (by omega), List.getElem?_eq_getElem (by omega)]; rfl
  · rw [List.getElem?_eq_none (by omega), List.getElem?_eq_none (by omega)]; rfl
theorem addL_len {a b : List Int} (ha : a.length = 10) (hb : b.length = 10) : (addL a b).length = 10 := by simp [addL, ha, hb]
theorem foldl_get (j : Nat) : ∀ (rs : List Rod) (acc : List Int), acc.length = 10 → (rs.foldl (fun acc r => addL acc (heldL ps r)) acc).getD j 0 = acc.getD j 0 + inJ ps rs j
  | [], acc, _ => by simp [inJ]
  | r :: rs, acc, h => by
    rw [List.foldl_cons, foldl_get j rs _ (addL_len h (held_len _ _)), addL_get h (held_len _ _)]
    simp [inJ]
    omega
theorem inside_get (rs : List Rod) (j : Nat) : (insideTo ps rs).getD j 0 = inJ ps rs j := by
  have z : (List.replicate 10 (0 : Int)).getD j 0 = 0 := by
    rw [List.getD_eq_getElem?_getD, List.getElem?_replicate]
    split <;> rfl
  unfold insideTo
  rw [foldl_get j rs _ (by simp), z, Int.zero_add]
theorem inside_eq {rs rs' : List Rod} (h : ∀ j, inJ ps rs j = inJ ps rs' j) : insideTo ps rs = insideTo ps rs' := by
  apply List.ext_getElem?
  intro j
  have e := h j
  rw [← inside_get, ← inside_get] at e
  simp only [List.getD_eq_getElem?_getD] at e
  have l1 := inside_len ps rs
  have l2 := inside_len ps rs'
  by_cases hj : j < 10
  · rw [List.getElem?_eq_getElem (by omega), List.getElem?_eq_getElem (by omega)] at e ⊢
    exact congrArg some e
  · rw [List.getElem?_eq_none (by omega), List.getElem?_eq_none (by omega)]
theorem inside_app {rs : List Rod} (h : ∀ r ∈ rs, RodOk ps k r) : insideTo (ps ++ qs) rs = insideTo ps rs := by
  unfold insideTo
  generalize List.replicate 10 (0 : Int) = acc
  induction rs generalizing acc with
  | nil => rfl
  | cons r rs ih =>
    rw [List.foldl_cons, List.foldl_cons, held_app (h r List.mem_cons_self)]
    exact ih (fun x hx => h x (List.mem_cons_of_mem _ hx)) _
/-- rows of the glass -/
def glassOf (a0 a1 a2 ins : List Int) : List PyData := (List.range 10).map fun j => tupI [a0.getD j 0, ins.getD j 0, a1.getD j 0, a2.getD j 0]
theorem glassD_of (ps : List Pic) (st : SS) : glassD ps st = glassOf st.a0 st.a1 st.a2 (insideTo ps st.rods) := rfl
theorem look_app (h : StOk ps k st) : lookD (ps ++ qs) st = lookD ps st := by
  unfold lookD
  rw [glassD_of, glassD_of, inside_app fun r hr => (h.rod r hr).1]
theorem LookAt.glass {H : Hp} {t lr lg lb : Addr} {vr vg : List V} (h : LookAt H t lr lg lb vr vg ps st) {qs' : List Pic} (e : glassD qs' st = glassD ps st) : LookAt H t lr lg lb vr vg qs' st := ⟨h.t, h.r, h.dr, h.g, by rw [e]; exact h.dg, h.b⟩
theorem LookAt.app {H : Hp} {t lr lg lb : Addr} {vr vg : List V} (h : LookAt H t lr lg lb vr vg ps st) (ok : StOk ps k st) : LookAt H t lr lg lb vr vg (ps ++ qs) st := h.glass (by rw [glassD_of, glassD_of, inside_app fun r hr => (ok.rod r hr).1])
theorem glass_flat (a0 a1 a2 ins : List Int) : flatAll (glassOf a0 a1 a2 ins) = true := by
  unfold glassOf
  generalize List.range 10 = l
  induction l with
  | nil => rfl
  | cons j l ih =>
    rw [List.map_cons, flatAll, ih]
    simp [tupI, flat, flatAll]
theorem LookAt.keep {H H' : Hp} {t lr lg lb : Addr} {vr vg : List V} (h : LookAt H t lr lg lb vr vg ps st) (kt : ∀ a xs, H a = some (.tup xs) → H' a = some (.tup xs)) (k1 : ∀ o, H lr = some o → H' lr = some o) (k2 : ∀ o, H lg = some o → H' lg = some o) (k3 : ∀ o, H lb = some o → H' lb = some o) : LookAt H' t lr lg lb vr vg ps st :=
  ⟨kt _ _ h.t, k1 _ h.r, dvAll_stay kt (rows_flat _) h.dr, k2 _ h.g, dvAll_stay kt (glass_flat _ _ _ _) h.dg, k3 _ h.b⟩
end
theorem Ws.at.tup {x : Ws} {K : PySem.W.Frag} {H H' : Hp} (h : x.at K H) (kp : Keep x.foot H H') : ∀ a xs, H a = some (.tup xs) → H' a = some (.tup xs) := fun a xs e => kp _ _ e fun z => by
  rcases z with z | z
  · exact foot_tup h.F e z
  · obtain ⟨o, q, nt⟩ := h.S.there a z
    rw [e] at q
    exact nt xs (Option.some.inj q).symm
theorem Gone.nf {x y : Ws} {H H' : Hp} (g : Gone H x H' y) {b : Addr} {o : HO} (e : H b = some o) (n : ¬ x.foot b) : ¬ y.foot b := fun z => by
  rcases z with z | z
  · rw [g.A] at z; exact n (.inl z)
  · rcases g.m b z with w | w
    · exact n (.inr w)
    · rw [e] at w; cases w
/-- a told stand, apart from the shop's own things -/
structure Told (H : Hp) (x : Ws) (t : Addr) (ps : List Pic) (st : SS) : Prop where
  ex : ∃ lr lg lb vr vg, LookAt H t lr lg lb vr vg ps st ∧ ¬ x.foot lr ∧ ¬ x.foot lg ∧ ¬ x.foot lb
theorem Told.gone {x y : Ws} {K : PySem.W.Frag} {H H' : Hp} {t : Addr} {ps : List Pic} {st : SS} (h : Told H x t ps st) (a : x.at K H) (g : Gone H x H' y) : Told H' y t ps st := by
  obtain ⟨lr, lg, lb, vr, vg, l, n1, n2, n3⟩ := h.ex
  exact ⟨lr, lg, lb, vr, vg, l.keep (a.tup g.keep) (fun o e => g.keep _ _ e n1) (fun o e => g.keep _ _ e n2) (fun o e => g.keep _ _ e n3), g.nf l.r n1, g.nf l.g n2, g.nf l.b n3⟩
theorem Told.dv {H : Hp} {x : Ws} {t : Addr} {ps : List Pic} {st : SS} (h : Told H x t ps st) : Dv H (.ref t) (lookD ps st) := by
  obtain ⟨lr, lg, lb, vr, vg, l, _⟩ := h.ex
  exact l.dv
theorem Told.same {x : Ws} {H H' : Hp} {t : Addr} {ps : List Pic} {st : SS} (h : Told H x t ps st) (s : Same H H') : Told H' x t ps st := by
  obtain ⟨lr, lg, lb, vr, vg, l, n⟩ := h.ex
  exact ⟨lr, lg, lb, vr, vg, l.same s, n⟩
/-- what is due -/
def DueR (H : Hp) (y : Ws) (r : Addr) (dd : Deed) : Prop :=
  (∃ w t, refuse y.ps y.now dd = some w ∧ H r = some (.tup [.str w, .non, .ref t]) ∧ Told H y t y.ps y.now) ∨
  (refuse y.ps y.now dd = none ∧ ∃ t, H r = some (.tup [.str "", ansV y.now dd, .ref t]) ∧ hasP y.ps y.now dd ∧ Told H y t y.ps (eff y.ps y.now dd))
def TellR (H : Hp) (r : Addr) (y z : Ws) (dd : Deed) : Prop :=
  (∃ w, refuse y.ps y.now dd = some w ∧ z = y ∧ H r = some (.tup [.str w, .non])) ∨
  (refuse y.ps y.now dd = none ∧ z.now = eff z.ps y.now dd ∧ H r = some (.tup [.str "", ansV y.now dd]))
def spDue (K : PySem.W.Frag) (n : Nat) (mk : List Int → Option Deed) : Sp := fun vs H Q _ => ∃ x : Ws, ∃ t, ∃ l : List Int, ∃ dd : Deed, vs = .ref x.p :: .ref t :: l.map V.int ∧ l.length = n ∧ mk l = some dd ∧ x.at K H ∧ x.k < 1000 ∧ Told H x t x.ps x.now ∧
  ∀ H' y r, y.at K H' → Gone H x H' y → y.now = x.now → y.k ≤ x.k + 1 → DueR H' y r dd → Q (.ref r) H'
theorem spDue_len {K : PySem.W.Frag} {n : Nat} {mk : List Int → Option Deed} {vs : List V} {H : Hp} {Q : VK} {E : XK} (h : spDue K n mk vs H Q E) : vs.length = n + 2 := by
  obtain ⟨x, t, l, dd, rfl, hl, _⟩ := h
  simp [hl]
def spTell (K : PySem.W.Frag) (n : Nat) (mk : List Int → Option Deed) : Sp := fun vs H Q _ => ∃ x : Ws, ∃ l : List Int, ∃ dd : Deed, vs = .ref x.s :: l.map V.int ∧ l.length = n ∧ mk l = some dd ∧ x.at K H ∧ x.k < 1000 ∧
  ∀ H' z r, z.at K H' → Gone H x H' z → z.k ≤ x.k + 1 → TellR H' r x z dd → Q (.ref r) H'
theorem spTell_len {K : PySem.W.Frag} {n : Nat} {mk : List Int → Option Deed} {vs : List V} {H : Hp} {Q : VK} {E : XK} (h : spTell K n mk vs H Q E) : vs.length = n + 1 := by
  obtain ⟨x, l, dd, rfl, hl, _⟩ := h
  simp [hl]
def spInside (K : PySem.W.Frag) : Sp := fun vs H Q _ => ∃ p A D ps rs k lr vr, vs = [.ref p, .ref lr] ∧ FacesAt (He.ga K "Faces") H p A D ps ∧ H lr = some (.lst vr) ∧ DvAll H vr (rowsD rs) ∧ (∀ r ∈ rs, RodOk ps k r) ∧ k ≤ 2000 ∧
  ∀ H' l, Same H H' → H l = none → H' l = some (.lst ((insideTo ps rs).map V.int)) → Q (.ref l) H'
def spStand (K : PySem.W.Frag) : Sp := fun vs H Q _ => ∃ p A D ps rs k lr, ∃ com : Int, ∃ lg lb vr vg a0 a1 a2 ins, vs = [.ref p, .ref lr, .int com, .ref lg, .ref lb] ∧ FacesAt (He.ga K "Faces") H p A D ps ∧ H lr = some (.lst vr) ∧ DvAll H vr (rowsD rs) ∧ (∀ r ∈ rs, RodOk ps k r) ∧ k ≤ 2000 ∧
  H lg = some (.lst vg) ∧ DvAll H vg (glassOf a0 a1 a2 ins) ∧
  ∀ H' t lt vt, Same H H' → H' t = some (.tup [.ref lr, .int com, .ref lt, .ref lb]) → H' lt = some (.lst vt) → DvAll H' vt (glassOf a0 a1 a2 (insideTo ps rs)) → H lt = none → Q (.ref t) H'
theorem glass_at {H : Hp} {vg : List V} {a0 a1 a2 ins : List Int} (h : DvAll H vg (glassOf a0 a1 a2 ins)) {i : Nat} {v : V} (e : vg[i]? = some v) : i < 10 ∧ ∃ t, v = .ref t ∧ H t = some (.tup [.int (a0.getD i 0), .int (ins.getD i 0), .int (a1.getD i 0), .int (a2.getD i 0)]) := by
  have hi : i < 10 := by
    have h1 := (List.getElem?_eq_some_iff.mp e).1
    have h2 := h.len
    simp [glassOf] at h2
    omega
  obtain ⟨d, e1, e2⟩ := h.get e
  unfold glassOf at e1
  rw [List.getElem?_map, List.getElem?_range hi] at e1
  obtain rfl := Option.some.inj e1
  cases e2 with
  | @tup t xs _ ht ha =>
    obtain rfl := vals_ints ha
    exact ⟨hi, t, rfl, ht⟩
def glassTo (a0 a1 a2 ins : List Int) (i : Nat) : List PyData := (List.range i).map fun j => tupI [a0.getD j 0, ins.getD j 0, a1.getD j 0, a2.getD j 0]
theorem glassTo_succ (a0 a1 a2 ins : List Int) (i : Nat) : glassTo a0 a1 a2 ins (i + 1) = glassTo a0 a1 a2 ins i ++ [tupI [a0.getD i 0, ins.getD i 0, a1.getD i 0, a2.getD i 0]] := by
  simp [glassTo, List.range_succ]
theorem glassTo_flat (a0 a1 a2 ins : List Int) (i : Nat) : flatAll (glassTo a0 a1 a2 ins i) = true := by
  unfold glassTo
  generalize List.range i = l
  induction l with
  | nil => rfl
  | cons j l ih =>
    rw [List.map_cons, flatAll, ih]
    simp [tupI, flat, flatAll]
/-- a tuple of ints, new -/
theorem dvRow {H : Hp} {t : Addr} {l : List Int} (h : H t = some (.tup (l.map V.int))) : Dv H (.ref t) (tupI l) := .tup h (DvAll.ints l)
theorem set_glass {a : List Int} {i cn : Nat} {p l : Int} (hc : cn < a.length) : a.getD i 0 + (if decide ((i : Int) = (cn : Int)) then 1 else 0) * l * (1 * p) = (a.set cn (a.getD cn 0 + p * l)).getD i 0 := by
  by_cases ei : i = cn
  · subst ei
    have e1 : (a.set i (a.getD i 0 + p * l)).getD i 0 = a.getD i 0 + p * l := by rw [List.getD_eq_getElem?_getD, List.getElem?_set_self hc]; rfl
    rw [e1]
    simp [Int.mul_comm]
  · have e1 : (a.set cn (a.getD cn 0 + p * l)).getD i 0 = a.getD i 0 := by rw [List.getD_eq_getElem?_getD, List.getElem?_set_ne (Ne.symm ei), ← List.getD_eq_getElem?_getD]
    have e2 : decide ((i : Int) = (cn : Int)) = false := decide_eq_false (by omega)
    rw [e1, e2]
    simp
/-- the store has worked beside the shop -/
theorem Ws.grow {x : Ws} {K : PySem.W.Frag} {H H' : Hp} (h : x.at K H) (hk : x.k < 1000) {D' : Addr → Prop} {qs cs : List Pic} (kp : Keep x.A.foot H H') (hF : FacesAt (He.ga K "Faces") H' x.p x.A D' (x.ps ++ qs)) (hB : Base cs (x.ps ++ qs)) (hl : cs.length ≤ x.bs.length + 1) (d2 : ∀ b, D' b → x.D b ∨ H b = none) :
    ∃ y : Ws, y.at K H' ∧ Gone H x H' y ∧ y.ps = x.ps ++ qs ∧ y.now = x.now ∧ y.k = x.k + 1 := by
  have hbl := h.bl
  have hpl := h.pl
  exact ⟨⟨x.p, x.A, D', x.ps ++ qs, cs, x.s, x.B, x.now, x.past, x.ahead, x.k + 1⟩, ⟨hF, hB, shopKeep h.S h.F h.ap kp, apKeep h.S h.ap d2, fun st hst => (h.ok st hst).mono (Nat.le_succ _), by dsimp only; omega, by dsimp only; omega, by dsimp only; omega⟩,
    ⟨rfl, rfl, rfl, ⟨qs, rfl⟩, kp.mono fun _ z => .inl z, liveF hF kp, d2, fun _ z => .inl z⟩, rfl, rfl, rfl⟩
theorem cut_36 {ns : List Int} (h : ns.length ≤ 63) : ∃ ms : List Int, cutV (ns.map V.int) (some 2) (some 38) = ms.map V.int ∧ ms.length ≤ 36 := by
  have key : ∀ n : Nat, n < 64 → HT.sIx n n (some 38) - HT.sIx n 0 (some 2) ≤ 36 := by decide
  unfold cutV
  refine ⟨(ns.drop (HT.sIx (ns.map V.int).length 0 (some 2))).take (HT.sIx (ns.map V.int).length (ns.map V.int).length (some 38) - HT.sIx (ns.map V.int).length 0 (some 2)), by rw [List.map_take, List.map_drop], ?_⟩
  have := key (ns.map V.int).length (by rw [List.length_map]; omega)
  rw [List.length_take]
  omega
def RawS (C : Addr) (E : XK) (vs : List V) (H1 : Hp) (Q : VK) : Prop := ∀ x dx, H1 x = none → H1 dx = none → dx ≠ x → spInitS C (.ref x :: (vs ++ [])) (upd (upd H1 dx (.own x)) x (.ins C dx [])) (fun v H2 => v = .non ∧ Q (.ref x) H2) E
theorem z_mkS {C : Addr} {σ : L2.St} {H : Hp} {Q : VK} {E : XK} {t : TA} (h : t σ H fun vs H1 => RawS C E vs H1 Q) : tMake C (spInitS C) [] E t σ H Q := h
theorem RawS.of {C p : Addr} {H1 : Hp} {Q : VK} {E : XK} (k : ∀ H' s B, Same H1 H' → ShopAt C H' s p B noneYet [] [] → (∀ b ∈ B.muts s, H1 b = none) → Q (.ref s) H') : RawS C E [.ref p] H1 Q := by
  intro x dx hx hdx hne
  refine ⟨x, dx, p, rfl, upd_same, fun H' B h1 h2 h3 => ⟨rfl, k H' x B (fun b o e => h1 b o (by rw [upd_ne (ne_of_none e hx), upd_ne (ne_of_none e hdx)]; exact e) (ne_of_none e hx)) h2 fun b hb => ?_⟩⟩
  rcases h3 b hb with rfl | z
  · exact hx
  · by_cases e1 : b = x
    · rw [e1]; exact hx
    · rw [upd_ne e1] at z
      by_cases e2 : b = dx
      · rw [e2]; exact hdx
      · rw [upd_ne e2] at z; exact z
/-- a new shop over a new store -/
theorem Ws.new {K : PySem.W.Frag} {H H1 H2 : Hp} {p : Addr} {A : FA} {D : Addr → Prop} {s : Addr} {B : SB} (s1 : Same H H1) (hF : FacesAt (He.ga K "Faces") H1 p A D []) (hD : ∀ b, D b → H b = none) (s2 : Same H1 H2) (hS : ShopAt (He.ga K "Shop") H2 s p B noneYet [] []) (fr : ∀ b ∈ B.muts s, H1 b = none) :
    ∃ x : Ws, x.at K H2 ∧ x.p = p ∧ x.s = s ∧ x.now = noneYet ∧ x.ps = [] ∧ x.past = [] ∧ x.ahead = [] ∧ x.k = 0 ∧ ∀ b, x.foot b → H b = none := by
  have z10 : SumOk 0 (List.replicate 10 0) := ⟨by simp, fun x hx => by
    rw [List.mem_replicate] at hx
    rw [hx.2]
    exact ⟨Int.le_refl _, pow2 _⟩⟩
  have ok0 : StOk [] 0 noneYet := ⟨by simp [noneYet], by simp [noneYet], by simp [noneYet], by simp [noneYet], by simp [noneYet], by simp [noneYet], by simp [noneYet], z10, z10, z10, by simp [noneYet]⟩
  refine ⟨⟨p, A, D, [], [], s, B, noneYet, [], [], 0⟩, ⟨hF.same s2, by simp [Base], hS, fun a ha z => ?_, fun st hst => ?_, by simp, by simp, by simp⟩, rfl, rfl, rfl, rfl, rfl, rfl, rfl, fun b hb => ?_⟩
  · exact hF.nd (fr a ha) z
  · rcases hst with rfl | z | z
    · exact ok0
    · cases z
    · cases z
  · rcases hb with z | z
    · exact hD b (hF.df b z)
    · exact s1.free (fr b z)
theorem z_due_tell {K : PySem.W.Frag} {H1 H2 : Hp} {y z : Ws} {r r' : Addr} {dd : Deed} (d : DueR H1 y r dd) (hy : y.at K H1) (g : Gone H1 y H2 z) (hz : z.at K H2) (t : TellR H2 r' y z dd) :
    ∃ w v dv t2, H2 r = some (.tup [.str w, v, .ref t2]) ∧ H2 r' = some (.tup [.str w, v]) ∧ (∀ H, Dv H v dv) ∧ dpt dv = 0 ∧ Told H2 z t2 z.ps z.now := by
  rcases d with ⟨w, t0, hw, hr, told⟩ | ⟨hn, t0, hr, hp, told⟩
  · rcases t with ⟨w', hw', ez, hr'⟩ | ⟨hn', _⟩
    · rw [hw] at hw'
      obtain rfl := Option.some.inj hw'
      have tz := told.gone hy g
      rw [ez] at tz ⊢
      exact ⟨w, .non, .none, t0, hy.tup g.keep _ _ hr, hr', fun _ => .non, rfl, tz⟩
    · rw [hw] at hn'; cases hn'
  · rcases t with ⟨w', hw', ez, hr'⟩ | ⟨hn', en, hr'⟩
    · rw [hn] at hw'; cases hw'
    · have ok := hy.ok _ (.inl rfl)
      obtain ⟨qs, eq⟩ := g.ext
      have e1 : z.now = eff y.ps y.now dd := by rw [en, eq, eff_app ok hn hp]
      have oke : StOk y.ps (y.k + 1) (eff y.ps y.now dd) := by
        have z := eff_ok (qs := []) ok hn (by rw [List.append_nil]; exact hp)
        rw [List.append_nil] at z
        exact z
      have tz := told.gone hy g
      obtain ⟨lr, lg, lb, vr, vg, l, n⟩ := tz.ex
      have tz2 : Told H2 z t0 z.ps z.now := ⟨lr, lg, lb, vr, vg, by rw [e1, eq]; exact l.app oke, n⟩
      have hd : ∃ dv, (∀ H, Dv H (ansV y.now dd) dv) ∧ dpt dv = 0 := by
        cases dd <;> first
          | exact ⟨.none, fun _ => .non, rfl⟩
          | exact ⟨.int _, fun _ => .int _, rfl⟩
      obtain ⟨dv, h1, h2⟩ := hd
      exact ⟨"", _, dv, t0, hy.tup g.keep _ _ hr, hr', h1, h2, tz2⟩
theorem dpt_ints : ∀ l : List Int, dptAll (l.map PyData.int) = 0
  | [] => rfl
  | i :: l => by simp [dptAll, dpt, dpt_ints l]
theorem dpt_rows : ∀ rs : List Rod, dptAll (rowsD rs) ≤ 1
  | [] => Nat.zero_le _
  | r :: rs => by
    have := dpt_rows rs
    rw [rowsD_cons, dptAll]
    simp only [dpt, dptAll]
    omega
theorem dpt_glass (a0 a1 a2 ins : List Int) : dptAll (glassOf a0 a1 a2 ins) ≤ 1 := by
  unfold glassOf
  generalize List.range 10 = l
  induction l with
  | nil => exact Nat.zero_le _
  | cons j l ih =>
    rw [List.map_cons, dptAll]
    simp only [tupI, List.map_cons, List.map_nil, dpt, dptAll] at ih ⊢
    omega
theorem dpt_look (ps : List Pic) (st : SS) : dpt (lookD ps st) < 8 := by
  unfold lookD
  rw [glassD_of]
  have h1 := dpt_rows st.rods
  have h2 := dpt_glass st.a0 st.a1 st.a2 (insideTo ps st.rods)
  have h3 := dpt_ints st.bun
  simp only [dpt, dptAll]
  omega
theorem ints_at {l : List Int} {j : Int} (h0 : 0 ≤ j) (h1 : j < l.length) : ∃ v, atI (l.map V.int) j = some (.int v) := by
  obtain ⟨i, rfl⟩ : ∃ i : Nat, j = (i : Nat) := ⟨j.toNat, by omega⟩
  exact ⟨l.getD i 0, atI_of (n := i) (by rw [List.getElem?_map, List.getD_eq_getElem?_getD, List.getElem?_eq_getElem (by omega : i < l.length)]; rfl) rfl⟩
/-! ### glass through deeds -/
def held1 (ps : List Pic) (f t : Int) (j : Nat) : Int := (picF ps f).sums.getD j 0 * 4 ^ (t.toNat - (picF ps f).depth)
theorem held_get (ps : List Pic) (r : Rod) (j : Nat) : (heldL ps r).getD j 0 = held1 ps r.f r.t j * r.l := by
  unfold heldL held1
  simp only [List.getD_eq_getElem?_getD, List.getElem?_map]
  cases (picF ps r.f).sums[j]? <;> simp
theorem held1_pull {ps : List Pic} {f t : Int} {k : Nat} (j : Nat) (h : depthF ps f ≤ t - k) : held1 ps f (t - k) j * 4 ^ k = held1 ps f t j := by
  unfold held1
  unfold depthF at h
  have e : t.toNat - (picF ps f).depth = ((t - (k : Int)).toNat - (picF ps f).depth) + k := by
    unfold picF
    omega
  rw [e, Int.pow_add, Int.mul_assoc]
theorem held1_turn {ps : List Pic} {f g t u : Int} {P : Pic} (hP : IsF ps f P) (hQ : IsF ps g (P.turn u)) (h0 : 0 ≤ u) (h8 : u < 8) (j : Nat) : held1 ps g t j = held1 ps f t j := by
  unfold held1
  rw [picF_of hP, picF_of hQ, turn_depth h0 h8]
  have e : (P.turn u).sums = P.sums := by
    unfold Pic.sums
    apply List.map_congr_left
    intro k _
    exact turn_cnt h0 h8 P _
  rw [e]
section
variable {ps : List Pic} {rods : List Rod} {r r0 : Rod} {n : Int}
theorem inJ_cons (r : Rod) (rs : List Rod) (j : Nat) : inJ ps (r :: rs) j = (heldL ps r).getD j 0 + inJ ps rs j := by simp [inJ]
theorem inJ_app (a b : List Rod) (j : Nat) : inJ ps (a ++ b) j = inJ ps a j + inJ ps b j := by
  induction a with
  | nil => simp [inJ]
  | cons x a ih => rw [List.cons_append, inJ_cons, inJ_cons, ih, Int.add_assoc]
theorem setR_out (h : ∀ x ∈ rods, x.n ≠ r.n) : setR rods r = rods := by
  unfold setR
  calc rods.map (fun x => if x.n = r.n then r else x) = rods.map id := List.map_congr_left fun x hx => by rw [if_neg (h x hx)]; rfl
    _ = rods := List.map_id _
theorem dropR_out (h : ∀ x ∈ rods, x.n ≠ n) : dropR rods n = rods := by
  unfold dropR
  rw [List.filter_eq_self]
  intro x hx
  simpa using h x hx
theorem up_out {x : Rod} (h : ((x :: rods).map (·.n)).Pairwise (· < ·)) (e : x.n = n) : ∀ y ∈ rods, y.n ≠ n := by
  intro y hy z
  rw [List.map_cons, List.pairwise_cons] at h
  have := h.1 y.n (List.mem_map_of_mem hy)
  omega
theorem inJ_set (up : (rods.map (·.n)).Pairwise (· < ·)) (hf : findR rods r.n = some r0) (j : Nat) : inJ ps (setR rods r) j + (heldL ps r0).getD j 0 = inJ ps rods j + (heldL ps r).getD j 0 := by
  induction rods with
  | nil => cases hf
  | cons x rods ih =>
    by_cases c : x.n = r.n
    · have e0 : x = r0 := by simpa [findR, c] using hf
      have e1 : setR (x :: rods) r = r :: rods := by
        have := setR_out (r := r) (up_out up c)
        unfold setR at this ⊢
        rw [List.map_cons, if_pos c, this]
      rw [e1, inJ_cons, inJ_cons, e0]
      omega
    · have e0 : findR rods r.n = some r0 := by rw [← hf]; simp [findR, c]
      have e1 : setR (x :: rods) r = x :: setR rods r := by
        unfold setR
        rw [List.map_cons, if_neg c]
      rw [List.map_cons, List.pairwise_cons] at up
      have := ih up.2 e0
      rw [e1, inJ_cons, inJ_cons]
      omega
theorem inJ_drop (up : (rods.map (·.n)).Pairwise (· < ·)) (hf : findR rods n = some r0) (j : Nat) : inJ ps (dropR rods n) j + (heldL ps r0).getD j 0 = inJ ps rods j := by
  induction rods with
  | nil => cases hf
  | cons x rods ih =>
    by_cases c : x.n = n
    · have e0 : x = r0 := by simpa [findR, c] using hf
      have e1 : dropR (x :: rods) n = rods := by
        have := dropR_out (n := n) (up_out up c)
        unfold dropR at this ⊢
        rw [List.filter_cons_of_neg (by simpa using c), this]
      rw [e1, inJ_cons, e0]
      omega
    · have e0 : findR rods n = some r0 := by rw [← hf]; simp [findR, c]
      have e1 : dropR (x :: rods) n = x :: dropR rods n := by
        unfold dropR
        rw [List.filter_cons_of_pos (by simpa using c)]
      rw [List.map_cons, List.pairwise_cons] at up
      have := ih up.2 e0
      rw [e1, inJ_cons, inJ_cons]
      omega
end
theorem addK {a b c : Int} (h : a + c = b + c) : a = b := by omega
theorem row_stay {H H' : Hp} (kt : ∀ a xs, H a = some (.tup xs) → H' a = some (.tup xs)) {vr : List V} {rs : List Rod} (h : DvAll H vr (rowsD rs)) : DvAll H' vr (rowsD rs) := dvAll_stay kt (rows_flat _) h
theorem rows_snoc {H : Hp} {vr : List V} {rs : List Rod} {r : Rod} {t : Addr} (h : DvAll H vr (rowsD rs)) (ht : H t = some (.tup [.int r.n, .int r.f, .int r.t, .int r.l])) : DvAll H (vr ++ [.ref t]) (rowsD (rs ++ [r])) := by
  unfold rowsD
  rw [List.map_append]
  exact DvAll.snoc (dvRow (l := [r.n, r.f, r.t, r.l]) ht) h
theorem setR_take {rods : List Rod} {r x : Rod} {i : Nat} (h : rods[i]? = some x) : setR (rods.take (i + 1)) r = setR (rods.take i) r ++ [if x.n = r.n then r else x] := by
  rw [List.take_add_one, h]
  simp [setR]
theorem vals_one (dd : Deed) : ∃ i : Int, atI dd.vals 1 = some (.int i) := by
  cases dd <;> exact ⟨_, atI_of (n := 1) rfl rfl⟩
theorem name_fuse {dd : Deed} (h : dd.name = "fuse") : ∃ a b, dd = .fuse a b := by
  cases dd with
  | fuse a b => exact ⟨a, b, rfl⟩
  | _ => exact absurd h (by simp only [Deed.name]; decide)
theorem name_gather {dd : Deed} (h : dd.name = "gather") : ∃ a b c, dd = .gather a b c := by
  cases dd with
  | gather a b c => exact ⟨a, b, c, rfl⟩
  | _ => exact absurd h (by simp only [Deed.name]; decide)
theorem name_bundle {dd : Deed} (h : dd.name = "bundle") : ∃ a b c d, dd = .bundle a b c d := by
  cases dd with
  | bundle a b c d => exact ⟨a, b, c, d, rfl⟩
  | _ => exact absurd h (by simp only [Deed.name]; decide)
theorem name_sell {dd : Deed} (h : dd.name = "sell") : ∃ a, dd = .sell a := by
  cases dd with
  | sell a => exact ⟨a, rfl⟩
  | _ => exact absurd h (by simp only [Deed.name]; decide)
theorem vals_two {dd : Deed} {p : Prop} [Decidable p] (h : dd.name = (if p then ("gather" : Str) else ("fuse" : Str))) : ∃ i j : Int, atI dd.vals 1 = some (.int i) ∧ atI dd.vals 2 = some (.int j) := by
  by_cases hp : p
  · rw [if_pos hp] at h
    obtain ⟨a, b, c, rfl⟩ := name_gather h
    exact ⟨a, b, atI_of (n := 1) rfl rfl, atI_of (n := 2) rfl rfl⟩
  · rw [if_neg hp] at h
    obtain ⟨a, b, rfl⟩ := name_fuse h
    exact ⟨a, b, atI_of (n := 1) rfl rfl, atI_of (n := 2) rfl rfl⟩
theorem eqv_two (a b c d : Int) : PyData.eqv (.tuple [.int a, .int b]) (.tuple [.int c, .int d]) = decide (a = c ∧ b = d) := by
  simp [PyData.eqv, PyData.eqvAll]
  by_cases h1 : a = c <;> by_cases h2 : b = d <;> simp [h1, h2]
theorem inV_ints (i : Int) (ns : List Int) : inV (.int i) (ns.map V.int) = decide (i ∈ ns) := by
  unfold inV
  induction ns with
  | nil => rfl
  | cons n ns ih =>
    rw [List.map_cons, List.any_cons, ih]
    by_cases h : n = i
    · subst h; simp [eqV]
    · have h' : ¬ i = n := fun z => h z.symm
      simp [eqV, h, h']
theorem flat_vals (ns : List Int) : (ns.map V.int).all flatV = true := by
  induction ns with
  | nil => rfl
  | cons n ns ih => rw [List.map_cons, List.all_cons, ih]; rfl
/-! the refusals of each deed -/
section
variable {ps : List Pic} {st : SS} {w : Str}
theorem ref_two {p : Prop} [Decidable p] {x c : Str} {o : Option Str} (e : (if p then some x else o) = some c) : c = x ∨ o = some c := by
  by_cases hp : p
  · rw [if_pos hp] at e; exact .inl (Option.some.inj e).symm
  · rw [if_neg hp] at e; exact .inr e
theorem ref_gather {c t l : Int} (h : refuse ps st (.gather c t l) = some w) : w = "BadColour" ∨ w = "BadThickness" ∨ w = "BadLength" := by
  unfold refuse at h; simp only at h
  rcases ref_two h with h | h
  · exact .inl h
  rcases ref_two h with h | h
  · exact .inr (.inl h)
  rcases ref_two h with h | h
  · exact .inr (.inr h)
  cases h
theorem ref_pull {n k : Int} (h : refuse ps st (.pull n k) = some w) : w = "NoRod" ∨ w = "BadSteps" ∨ w = "TooThin" := by
  unfold refuse at h; simp only at h
  cases e : findR st.rods n with
  | none => rw [e] at h; exact .inl (Option.some.inj h).symm
  | some r =>
    rw [e] at h; simp only at h
    rcases ref_two h with h | h
    · exact .inr (.inl h)
    rcases ref_two h with h | h
    · exact .inr (.inr h)
    cases h
theorem ref_turn {n k : Int} (h : refuse ps st (.turn n k) = some w) : w = "NoRod" ∨ w = "BadTurn" := by
  unfold refuse at h; simp only at h
  cases e : findR st.rods n with
  | none => rw [e] at h; exact .inl (Option.some.inj h).symm
  | some r =>
    rw [e] at h; simp only at h
    rcases ref_two h with h | h
    · exact .inr h
    cases h
theorem ref_cut {n k : Int} (h : refuse ps st (.cut n k) = some w) : w = "NoRod" ∨ w = "BadLength" := by
  unfold refuse at h; simp only at h
  cases e : findR st.rods n with
  | none => rw [e] at h; exact .inl (Option.some.inj h).symm
  | some r =>
    rw [e] at h; simp only at h
    rcases ref_two h with h | h
    · exact .inr h
    cases h
theorem ref_fuse {a b : Int} (h : refuse ps st (.fuse a b) = some w) : w = "NoRod" ∨ w = "Twice" ∨ w = "Unlike" := by
  unfold refuse at h; simp only at h
  cases e : findR st.rods a with
  | none => rw [e] at h; exact .inl (Option.some.inj h).symm
  | some r =>
    cases e2 : findR st.rods b with
    | none => rw [e, e2] at h; exact .inl (Option.some.inj h).symm
    | some r2 =>
      rw [e, e2] at h; simp only at h
      rcases ref_two h with h | h
      · exact .inr (.inl h)
      rcases ref_two h with h | h
      · exact .inr (.inr h)
      cases h
theorem ref_sell {n : Int} (h : refuse ps st (.sell n) = some w) : w = "NoRod" := by
  unfold refuse at h; simp only at h
  cases e : findR st.rods n with
  | none => rw [e] at h; exact (Option.some.inj h).symm
  | some r => rw [e] at h; cases h
theorem ref_waste {n : Int} (h : refuse ps st (.waste n) = some w) : w = "NoRod" := by
  unfold refuse at h; simp only at h
  cases e : findR st.rods n with
  | none => rw [e] at h; exact (Option.some.inj h).symm
  | some r => rw [e] at h; cases h
theorem ref_bundle {a b c d : Int} (h : refuse ps st (.bundle a b c d) = some w) : w = "NoRod" ∨ w = "Twice" ∨ w = "Unlike" ∨ w = "TooThick" := by
  by_cases hn : findR st.rods a = none ∨ findR st.rods b = none ∨ findR st.rods c = none ∨ findR st.rods d = none
  · rw [refuse_none hn] at h; exact .inl (Option.some.inj h).symm
  · simp only [not_or] at hn
    obtain ⟨h1, h2, h3, h4⟩ := hn
    obtain ⟨r1, e1⟩ := Option.ne_none_iff_exists'.mp h1
    obtain ⟨r2, e2⟩ := Option.ne_none_iff_exists'.mp h2
    obtain ⟨r3, e3⟩ := Option.ne_none_iff_exists'.mp h3
    obtain ⟨r4, e4⟩ := Option.ne_none_iff_exists'.mp h4
    unfold refuse at h; simp only at h
    rw [e1, e2, e3, e4] at h; simp only at h
    rcases ref_two h with h | h
    · exact .inr (.inl h)
    rcases ref_two h with h | h
    · exact .inr (.inr (.inl h))
    rcases ref_two h with h | h
    · exact .inr (.inr (.inr h))
    cases h
end
end Mur
/-! Texts, and tuples of ints and texts as deeds that may be spoilt. -/
namespace Mur
open PySem hiding start
open PySem.Spec L2
open PyProof.Rows hiding St
theorem z_m1 {r : V → List V → Hp → VK → Prop} {to te : TE} {σ : L2.St} {H : Hp} {Q : VK} (h : to σ H fun x H1 => (∃ a, x = .str a) ∧ te σ H1 fun y H2 => r x [y] H2 Q) : tM1 r to te σ H Q := h
def names8 : List Str := ["gather", "pull", "bundle", "turn", "cut", "fuse", "sell", "waste"]
def many8 : List Int := [3, 2, 4, 2, 2, 2, 1, 1]
theorem name8 {t : Int} (h0 : 0 ≤ t) (h8 : t < 8) : ∃ (w : Str) (m : Nat), atI (names8.map V.str) t = some (.str w) ∧ atI (many8.map V.int) t = some (.int ((m : Nat) : Int)) ∧ shapesL.lookup w = some ((m : Nat) : Int) ∧ m ≤ 4 ∧ w ∈ names8 := by
  rcases (show t = 0 ∨ t = 1 ∨ t = 2 ∨ t = 3 ∨ t = 4 ∨ t = 5 ∨ t = 6 ∨ t = 7 by omega) with rfl | rfl | rfl | rfl | rfl | rfl | rfl | rfl
  · exact ⟨"gather", 3, by rfl, by rfl, by decide +kernel, by decide, by decide +kernel⟩
  · exact ⟨"pull", 2, by rfl, by rfl, by decide +kernel, by decide, by decide +kernel⟩
  · exact ⟨"bundle", 4, by rfl, by rfl, by decide +kernel, by decide, by decide +kernel⟩
  · exact ⟨"turn", 2, by rfl, by rfl, by decide +kernel, by decide, by decide +kernel⟩
  · exact ⟨"cut", 2, by rfl, by rfl, by decide +kernel, by decide, by decide +kernel⟩
  · exact ⟨"fuse", 2, by rfl, by rfl, by decide +kernel, by decide, by decide +kernel⟩
  · exact ⟨"sell", 1, by rfl, by rfl, by decide +kernel, by decide, by decide +kernel⟩
  · exact ⟨"waste", 1, by rfl, by rfl, by decide +kernel, by decide, by decide +kernel⟩
theorem inNames (z : Str) : inV (.str z) (names8.map V.str) = decide (z ∈ names8) := by
  have : ∀ l : List Str, inV (.str z) (l.map V.str) = decide (z ∈ l) := fun l => by
    induction l with
    | nil => rfl
    | cons y l ih =>
      have e : inV (.str z) (V.str y :: l.map V.str) = ((y == z) || inV (.str z) (l.map V.str)) := rfl
      rw [List.map_cons, e, ih]
      by_cases h : y = z
      · subst h; simp
      · have h' : ¬ z = y := fun q => h q.symm
        simp [h, h']
  exact this _
/-- where a name stands -/
theorem name_at {z : Str} (h : z ∈ names8) : ∃ (j m : Nat), names8[j]? = some z ∧ (∀ i, i < j → names8[i]? ≠ some z) ∧ atI (many8.map V.int) ((j : Nat) : Int) = some (.int ((m : Nat) : Int)) ∧ shapesL.lookup z = some ((m : Nat) : Int) := by
  have key : ∀ j : Nat, j < 8 → ∀ i, i < j → names8[i]? ≠ names8[j]? := by decide +kernel
  simp only [names8, List.mem_cons, List.mem_nil_iff, or_false] at h
  rcases h with rfl | rfl | rfl | rfl | rfl | rfl | rfl | rfl
  · exact ⟨0, 3, by rfl, key 0 (by decide), by rfl, by decide +kernel⟩
  · exact ⟨1, 2, by rfl, key 1 (by decide), by rfl, by decide +kernel⟩
  · exact ⟨2, 4, by rfl, key 2 (by decide), by rfl, by decide +kernel⟩
  · exact ⟨3, 2, by rfl, key 3 (by decide), by rfl, by decide +kernel⟩
  · exact ⟨4, 2, by rfl, key 4 (by decide), by rfl, by decide +kernel⟩
  · exact ⟨5, 2, by rfl, key 5 (by decide), by rfl, by decide +kernel⟩
  · exact ⟨6, 1, by rfl, key 6 (by decide), by rfl, by decide +kernel⟩
  · exact ⟨7, 1, by rfl, key 7 (by decide), by rfl, by decide +kernel⟩
theorem name_no {z : Str} (h : z ∉ names8) : shapesL.lookup z = none := by
  simp only [names8, List.mem_cons, List.mem_nil_iff, or_false, not_or] at h
  obtain ⟨h1, h2, h3, h4, h5, h6, h7, h8⟩ := h
  have nb : ∀ {x : Str}, z ≠ x → (z == x) = false := fun h => by simpa using h
  simp only [shapesL, List.lookup_cons, List.lookup_nil, nb h1, nb h2, nb h3, nb h4, nb h5, nb h6, nb h7, nb h8]
/-- ints and short texts -/
def IsS (n : Nat) (v : V) : Prop := (∃ i, v = .int i) ∨ ∃ z, v = .str z ∧ z.length ≤ n
def toD : V → PyData
  | .int i => .int i
  | .str z => .str z
  | _ => .none
theorem IsS.dv {H : Hp} {n : Nat} {v : V} (h : IsS n v) : Dv H v (toD v) ∧ isIS (toD v) = true := by
  rcases h with ⟨i, rfl⟩ | ⟨z, rfl, _⟩
  · exact ⟨.int i, rfl⟩
  · exact ⟨.str z, rfl⟩
theorem IsS.all {H : Hp} {n : Nat} : ∀ {vs : List V}, (∀ v ∈ vs, IsS n v) → DvAll H vs (vs.map toD) ∧ ∀ d ∈ vs.map toD, isIS d = true
  | [], _ => ⟨.nil, by simp⟩
  | v :: vs, h => by
    obtain ⟨a, b⟩ := (h v (by simp)).dv (H := H)
    obtain ⟨c, d⟩ := IsS.all (H := H) (vs := vs) fun w hw => h w (by simp [hw])
    exact ⟨.cons a c, by simpa using ⟨b, fun w hw => d _ (List.mem_map_of_mem hw)⟩⟩
theorem mem_cut {xs : List V} {lo hi : Option Int} {v : V} (h : v ∈ cutV xs lo hi) : v ∈ xs := by
  unfold cutV at h
  exact List.mem_of_mem_drop (List.mem_of_mem_take h)
theorem cut_len (xs : List V) (lo hi : Option Int) : (cutV xs lo hi).length ≤ xs.length := by
  unfold cutV
  rw [List.length_take, List.length_drop]; omega
theorem isS_cut {xs : List V} {lo hi : Option Int} {n : Nat} (h : ∀ v ∈ xs, IsS n v) : ∀ v ∈ cutV xs lo hi, IsS n v := fun v hv => h v (mem_cut hv)
theorem isS_app {xs ys : List V} {n : Nat} (h1 : ∀ v ∈ xs, IsS n v) (h2 : ∀ v ∈ ys, IsS n v) : ∀ v ∈ xs ++ ys, IsS n v := fun v hv => (List.mem_append.mp hv).elim (h1 v) (h2 v)
theorem isS_one {v : V} {n : Nat} (h : IsS n v) : ∀ w ∈ [v], IsS n w := fun w hw => by simp at hw; subst hw; exact h
theorem atI_pick {l : List Str} {n : Nat} {i : Int} (h0 : 0 ≤ i) (h1 : i < (l.length : Nat)) (hl : ∀ z ∈ l, z.length ≤ n) : ∃ z, atI (l.map V.str) i = some (.str z) ∧ z.length ≤ n := by
  have hi : i.toNat < l.length := by omega
  exact ⟨l[i.toNat], atI_of (n := i.toNat) (by rw [List.getElem?_map, List.getElem?_eq_getElem hi]; rfl) (by omega), hl _ (List.getElem_mem hi)⟩
theorem deed_nums {dd : Deed} (h : isDeed dd.items = true) : ∀ x ∈ dd.args, 0 ≤ x ∧ x ≤ 999999999999999999 := fun x hx => by
  have h' : (decide (shapesL.lookup dd.name = some ((dd.args.map PyData.int).length : Int)) && (dd.args.map PyData.int).all numOk) = true := h
  rw [Bool.and_eq_true, List.all_eq_true] at h'
  exact of_decide_eq_true (h'.2 (.int x) (List.mem_map_of_mem hx))
theorem args_len (dd : Deed) : dd.args.length ≤ 4 := by cases dd <;> simp [Deed.args]
theorem name_len (dd : Deed) : dd.name.length ≤ 6 := by cases dd <;> (simp only [Deed.name]; decide +kernel)
theorem num_len {x : Int} (h0 : 0 ≤ x) (h1 : x ≤ 999999999999999999) : (Str.ofString (toString x)).length ≤ 18 := by
  obtain ⟨n, rfl⟩ : ∃ n : Nat, x = (n : Int) := ⟨x.toNat, by omega⟩
  rw [TL.len_tl, TL.tl_num]
  exact TL.numL_len (by decide) (by have : (10 : Nat) ^ 18 = 1000000000000000000 := by decide
                                    omega)
theorem log_small {x : Int} (h0 : 0 ≤ x) (h1 : x ≤ 999999999999999999) : x.natAbs.log2 < 1920 := by
  by_cases h : x.natAbs = 0
  · rw [h]; decide
  · exact Nat.lt_of_lt_of_le ((Nat.log2_lt (k := 64) h).mpr (by omega)) (by decide)
theorem isS_vals {dd : Deed} : ∀ v ∈ dd.vals, IsS 100 v := fun v hv => by
  rcases List.mem_cons.mp hv with rfl | hv
  · exact .inr ⟨_, rfl, Nat.le_trans (name_len dd) (by decide)⟩
  · obtain ⟨x, _, rfl⟩ := List.mem_map.mp hv
    exact .inl ⟨x, rfl⟩
theorem vals_len (dd : Deed) : dd.vals.length ≤ 5 := by
  have := args_len dd
  simp [Deed.vals]; omega
theorem len_one (c : Nat) : (⟨#[c]⟩ : Str).length = 1 := rfl
theorem atI_txt {z : Str} {i : Int} (h0 : 0 ≤ i) (h1 : i < (z.length : Nat)) : ∃ c, atI z.cps.toList i = some c := by
  obtain ⟨n, rfl⟩ : ∃ n : Nat, i = (n : Int) := ⟨i.toNat, by omega⟩
  have hi : n < z.cps.toList.length := by
    have h2 : z.length = z.cps.toList.length := TL.len_tl z
    rw [← h2]; omega
  exact ⟨z.cps.toList[n], atI_nat (List.getElem?_eq_getElem hi)⟩
/-- the length of texts joined -/
theorem joinL_len (S : List Nat) : ∀ l : List (List Nat), (TL.joinL S l).length ≤ (l.map List.length).sum + l.length * S.length
  | [] => by simp [TL.joinL]
  | [p] => by simp [TL.joinL]
  | p :: q :: l => by
    have h := joinL_len S (q :: l)
    have e : TL.joinL S (p :: q :: l) = p ++ (S ++ TL.joinL S (q :: l)) := rfl
    rw [e]
    simp only [List.length_append, List.map_cons, List.sum_cons, List.length_cons] at h ⊢
    rw [Nat.succ_mul]
    omega
theorem str_len {a : Str} {ys : List Str} : (Txt.join a ys).length ≤ (ys.map (·.length)).sum + ys.length * a.length := by
  rw [TL.join_eq, TL.len_tl, TL.tl_join]
  refine Nat.le_trans (joinL_len _ _) ?_
  rw [List.map_map, List.length_map, ← TL.len_tl]
  have : (List.length ∘ TL.tl) = fun y : Str => y.length := by funext y; exact (TL.len_tl y).symm
  rw [this]
  exact Nat.le_refl _
theorem sum_le {l : List Nat} {n : Nat} (h : ∀ x ∈ l, x ≤ n) : l.sum ≤ l.length * n := by
  induction l with
  | nil => simp
  | cons x l ih =>
    have h1 := h x (by simp)
    have h2 := ih fun y hy => h y (by simp [hy])
    rw [List.sum_cons, List.length_cons, Nat.succ_mul]
    omega
end Mur
/-! Deeds as lines of text: written, read, number by number. -/
namespace Mur
open PySem hiding start
open PySem.Spec L2
open PyProof.Rows hiding St
theorem str_ext {x y : Str} : x = y ↔ TL.tl x = TL.tl y := ⟨fun h => by rw [h], TL.ext_tl⟩
theorem len_tl' (x : Str) : x.length = (TL.tl x).length := TL.len_tl x
/-- the number that a word writes -/
def numL? (l : List Nat) : Option Int :=
  if l = [] ∨ 18 < l.length ∨ (l.head? = some 48 ∧ 1 < l.length) then none else if l.all (fun c => decide (48 ≤ c ∧ c ≤ 57)) = true then some ((NumText.digitsVal l : Nat) : Int) else none
def numOf (z : Str) : Option Int := numL? (TL.tl z)
def wordsOf (z : Str) : List Str := Txt.split z " "
/-- the deed that a line writes: its name and numbers -/
def readOf (z : Str) : Option (Str × List Int) := match wordsOf z with
  | [] => none
  | w :: r => if shapesL.lookup w = some ((r.length : Nat) : Int) then (r.mapM numOf).map fun ns => (w, ns) else none
theorem spl_lens : ∀ (l acc : List Nat), (∀ p ∈ TL.spl [32] 0 acc l, p.length ≤ acc.length + l.length) ∧ (TL.spl [32] 0 acc l).length ≤ l.length + 1 ∧ TL.spl [32] 0 acc l ≠ []
  | [], acc => by rw [TL.spl_nil]; simp
  | c :: r, acc => by
    cases h : TL.pre [32] (c :: r) with
    | true =>
      rw [TL.spl_hit h]
      obtain ⟨h1, h2, _⟩ := spl_lens r []
      refine ⟨fun p hp => ?_, ?_, by simp⟩
      · rcases List.mem_cons.mp hp with rfl | hp
        · omega
        · have := h1 p hp
          rw [List.length_nil] at this
          rw [List.length_cons]
          omega
      · have h2 : (TL.spl [32] ([32].length - 1) [] r).length ≤ r.length + 1 := h2
        rw [List.length_cons, List.length_cons]
        exact Nat.succ_le_succ h2
    | false =>
      rw [TL.spl_miss h]
      obtain ⟨h1, h2, h3⟩ := spl_lens r (acc ++ [c])
      refine ⟨fun p hp => ?_, by simp only [List.length_cons]; omega, h3⟩
      have := h1 p hp
      simp only [List.length_append, List.length_cons, List.length_nil] at this ⊢
      omega
theorem tl_blank : TL.tl (" " : Str) = [32] := by decide +kernel
theorem words_tl (z : Str) : (wordsOf z).map TL.tl = TL.spl [32] 0 [] (TL.tl z) := by
  have := TL.split_spl z " " (by rw [tl_blank]; simp) (TL.kind_ok (by decide +kernel))
  rw [tl_blank] at this
  exact this
theorem words_ne (z : Str) : ∃ w r, wordsOf z = w :: r := by
  have h := (spl_lens (TL.tl z) []).2.2
  rw [← words_tl] at h
  cases e : wordsOf z with
  | nil => rw [e] at h; exact absurd rfl h
  | cons w r => exact ⟨w, r, rfl⟩
theorem words_len (z : Str) : (wordsOf z).length ≤ z.length + 1 := by
  have h := (spl_lens (TL.tl z) []).2.1
  rw [← words_tl, List.length_map, ← TL.len_tl] at h
  exact h
theorem word_len {z w : Str} (h : w ∈ wordsOf z) : w.length ≤ z.length := by
  have h2 := (spl_lens (TL.tl z) []).1 (TL.tl w) (by rw [← words_tl]; exact List.mem_map_of_mem h)
  rw [TL.len_tl, TL.len_tl]
  simpa using h2
theorem mapM_some {α β : Type} {f : α → Option β} : ∀ {l : List α} {ys : List β}, l.mapM f = some ys → ys.length = l.length ∧ ∀ (i : Nat) (x : α), l[i]? = some x → ∃ y, f x = some y ∧ ys[i]? = some y
  | [], ys, h => by simp at h; subst h; simp
  | x :: l, ys, h => by
    rw [List.mapM_cons] at h
    cases e1 : f x with
    | none => rw [e1] at h; cases h
    | some y =>
      rw [e1] at h
      cases e2 : l.mapM f with
      | none => rw [e2] at h; cases h
      | some zs =>
        rw [e2] at h
        obtain rfl : y :: zs = ys := Option.some.inj h
        obtain ⟨a, b⟩ := mapM_some e2
        refine ⟨by simp [a], fun i z hz => ?_⟩
        cases i with
        | zero => simp at hz; subst hz; exact ⟨y, e1, rfl⟩
        | succ i => exact b i z (by simpa using hz)
theorem mapM_none {α β : Type} {f : α → Option β} : ∀ {l : List α} {x : α}, x ∈ l → f x = none → l.mapM f = none
  | y :: l, x, hm, hx => by
    rw [List.mapM_cons]
    rcases List.mem_cons.mp hm with rfl | hm
    · rw [hx]; rfl
    · cases f y with
      | none => rfl
      | some _ => rw [mapM_none hm hx]; rfl
theorem mapM_all {α β : Type} {f : α → Option β} : ∀ {l : List α}, (∀ x ∈ l, (f x).isSome = true) → ∃ ys, l.mapM f = some ys
  | [], _ => ⟨[], rfl⟩
  | x :: l, h => by
    obtain ⟨ys, e⟩ := mapM_all (l := l) fun y hy => h y (by simp [hy])
    obtain ⟨y, e1⟩ := Option.isSome_iff_exists.mp (h x (by simp))
    exact ⟨y :: ys, by rw [List.mapM_cons, e1, e]; rfl⟩
theorem mapM_take {α β : Type} {f : α → Option β} : ∀ {l : List α} {ys : List β} (i : Nat), l.mapM f = some ys → (l.take i).mapM f = some (ys.take i)
  | [], ys, i, h => by simp at h; subst h; simp
  | x :: l, ys, 0, h => by simp
  | x :: l, ys, i + 1, h => by
    rw [List.mapM_cons] at h
    cases e1 : f x with
    | none => rw [e1] at h; cases h
    | some y =>
      rw [e1] at h
      cases e2 : l.mapM f with
      | none => rw [e2] at h; cases h
      | some zs =>
        rw [e2] at h
        obtain rfl : y :: zs = ys := Option.some.inj h
        rw [List.take_succ_cons, List.take_succ_cons, List.mapM_cons, e1, mapM_take i e2]; rfl
/-! the line of a deed -/
def numT (x : Int) : Str := Str.ofString (toString x)
def Deed.words (dd : Deed) : List Str := dd.name :: dd.args.map numT
def Deed.line (dd : Deed) : Str := Txt.join " " dd.words
theorem words_args_len (dd : Deed) : dd.words.length = dd.args.length + 1 := by simp [Deed.words]
theorem sum_words {dd : Deed} (h : isDeed dd.items = true) : (dd.words.map (·.length)).sum + dd.words.length * (" " : Str).length ≤ 100 := by
  have h1 := sum_le (l := (dd.args.map numT).map (·.length)) (n := 18) fun x hx => by
    obtain ⟨y, hy, rfl⟩ := List.mem_map.mp hx
    obtain ⟨z, hz, rfl⟩ := List.mem_map.mp hy
    have := deed_nums h z hz
    exact num_len this.1 this.2
  have h2 := name_len dd
  have h3 := args_len dd
  have e : (" " : Str).length = 1 := by decide +kernel
  rw [words_args_len, e]
  simp only [Deed.words, List.map_cons, List.sum_cons]
  simp only [List.length_map] at h1
  omega
theorem line_len {dd : Deed} (h : isDeed dd.items = true) : dd.line.length ≤ 100 := Nat.le_trans str_len (sum_words h)
theorem tl_numT {x : Int} (h : 0 ≤ x) : TL.tl (numT x) = TL.numL x.toNat := by
  obtain ⟨n, rfl⟩ : ∃ n : Nat, x = (n : Int) := ⟨x.toNat, by omega⟩
  exact TL.tl_num n
theorem numL_head : ∀ n : Nat, 0 < n → (TL.numL n).head? ≠ some 48 := fun n => by
  induction n using Nat.strongRecOn with
  | ind n ih =>
    intro h
    by_cases c : n < 10
    · rw [TL.numL_lt c]
      simp; omega
    · rw [TL.numL_step (by omega)]
      have h1 := ih (n / 10) (by omega) (by omega)
      have h2 := TL.numL_ne (n / 10)
      cases e : TL.numL (n / 10) with
      | nil => exact absurd e h2
      | cons a l => rw [e] at h1; simpa using h1
theorem num_back {x : Int} (h0 : 0 ≤ x) (h1 : x ≤ 999999999999999999) : numOf (numT x) = some x := by
  unfold numOf
  rw [tl_numT h0]
  have hn := TL.numL_ne x.toNat
  have hl : (TL.numL x.toNat).length ≤ 18 := TL.numL_len (by decide) (by
    have : (10 : Nat) ^ 18 = 1000000000000000000 := by decide
    omega)
  have hh : ¬ ((TL.numL x.toNat).head? = some 48 ∧ 1 < (TL.numL x.toNat).length) := fun ⟨a, b⟩ => by
    by_cases c : x.toNat = 0
    · rw [c, TL.numL_lt (by decide)] at b; simp at b
    · exact numL_head _ (by omega) a
  unfold numL?
  rw [if_neg (by rintro (z | z | z); exact hn z; omega; exact hh z), if_pos (by
    rw [List.all_eq_true]
    intro c hc
    exact decide_eq_true (TL.numL_digits _ c hc)), TL.numL_val]
  congr 1
  omega
theorem mapM_back : ∀ {l : List Int}, (∀ x ∈ l, 0 ≤ x ∧ x ≤ 999999999999999999) → (l.map numT).mapM numOf = some l
  | [], _ => rfl
  | x :: l, h => by
    rw [List.map_cons, List.mapM_cons, num_back (h x (by simp)).1 (h x (by simp)).2, mapM_back fun y hy => h y (by simp [hy])]
    rfl
theorem name_blank (dd : Deed) : 32 ∉ TL.tl dd.name := by cases dd <;> (simp only [Deed.name]; decide +kernel)
theorem words_back {dd : Deed} (h : isDeed dd.items = true) : wordsOf dd.line = dd.words := by
  unfold wordsOf Deed.line
  refine TL.split_join (s := 32) (S := []) tl_blank (by decide +kernel) (by simp [Deed.words]) fun p hp => ?_
  rcases List.mem_cons.mp hp with rfl | hp
  · exact name_blank dd
  · obtain ⟨x, hx, rfl⟩ := List.mem_map.mp hp
    rw [tl_numT (deed_nums h x hx).1]
    exact TL.numL_free (.inl (by decide))
theorem deed_shape {dd : Deed} (h : isDeed dd.items = true) : shapesL.lookup dd.name = some ((dd.args.length : Nat) : Int) := by
  have h' : (decide (shapesL.lookup dd.name = some ((dd.args.map PyData.int).length : Int)) && (dd.args.map PyData.int).all numOk) = true := h
  rw [Bool.and_eq_true, decide_eq_true_eq, List.length_map] at h'
  exact h'.1
theorem read_back {dd : Deed} (h : isDeed dd.items = true) : readOf dd.line = some (dd.name, dd.args) := by
  unfold readOf
  rw [words_back h]
  show (if shapesL.lookup dd.name = some (((dd.args.map numT).length : Nat) : Int) then ((dd.args.map numT).mapM numOf).map fun ns => (dd.name, ns) else none) = _
  rw [List.length_map, if_pos (deed_shape h), mapM_back (deed_nums h)]
  rfl
/-- what was read is a deed -/
theorem digitsVal_lt : ∀ (l : List Nat) (a : Nat), (∀ c ∈ l, 48 ≤ c ∧ c ≤ 57) → l.foldl (fun acc c => acc * 10 + (c - 48)) a < (a + 1) * 10 ^ l.length
  | [], a, _ => by simp
  | c :: l, a, h => by
    have h1 := digitsVal_lt l (a * 10 + (c - 48)) fun d hd => h d (by simp [hd])
    have hc := h c (by simp)
    rw [List.foldl_cons]
    refine Nat.lt_of_lt_of_le h1 ?_
    rw [List.length_cons, Nat.pow_succ, Nat.mul_comm (10 ^ l.length) 10, ← Nat.mul_assoc]
    exact Nat.mul_le_mul_right _ (by omega)
theorem num_rg {l : List Nat} {x : Int} (h : numL? l = some x) : 0 ≤ x ∧ x ≤ 999999999999999999 := by
  unfold numL? at h
  split at h
  · cases h
  · rename_i hn
    split at h
    · rename_i hd
      obtain rfl := Option.some.inj h
      rw [List.all_eq_true] at hd
      have h1 := digitsVal_lt l 0 fun c hc => of_decide_eq_true (hd c hc)
      have h2 : NumText.digitsVal l = l.foldl (fun acc c => acc * 10 + (c - 48)) 0 := rfl
      have h3 : (10 : Nat) ^ l.length ≤ 10 ^ 18 := Nat.pow_le_pow_right (by decide) (by
        by_cases c : 18 < l.length
        · exact absurd (.inr (.inl c)) hn
        · omega)
      have h4 : (10 : Nat) ^ 18 = 1000000000000000000 := by decide
      rw [h2]
      omega
    · cases h
theorem read_deed {z : Str} {w : Str} {ns : List Int} (h : readOf z = some (w, ns)) : isDeed (.str w :: ns.map PyData.int) = true := by
  unfold readOf at h
  cases e : wordsOf z with
  | nil => rw [e] at h; cases h
  | cons u r =>
    rw [e] at h
    have h : (if shapesL.lookup u = some ((r.length : Nat) : Int) then (r.mapM numOf).map fun ns => (u, ns) else none) = some (w, ns) := h
    split at h
    · rename_i hs
      cases e2 : r.mapM numOf with
      | none => rw [e2] at h; cases h
      | some ms =>
        rw [e2] at h
        have h := Option.some.inj h
        injection h with h1 h2
        subst h1 h2
        obtain ⟨hl, hall⟩ := mapM_some e2
        show (decide (shapesL.lookup u = some ((ms.map PyData.int).length : Int)) && (ms.map PyData.int).all numOk) = true
        rw [List.length_map, hl, hs, decide_eq_true rfl, Bool.true_and, List.all_eq_true]
        intro d hd
        obtain ⟨x, hx, rfl⟩ := List.mem_map.mp hd
        obtain ⟨i, hi⟩ := List.getElem?_of_mem hx
        have hi2 : i < r.length := by rw [← hl]; exact (List.getElem?_eq_some_iff.mp hi).1
        obtain ⟨y, hy1, hy2⟩ := hall i _ (List.getElem?_eq_getElem hi2)
        rw [hi] at hy2
        obtain rfl := Option.some.inj hy2
        exact decide_eq_true (num_rg hy1)
    · cases h
/-! str(part) of an int or a text -/
def rStrU : List V → Hp → VK → Prop := fun xs H Q => (∃ i, xs = [.int i] ∧ i.natAbs.log2 < 1920 ∧ Q (.str (toString i)) H) ∨ ∃ a, xs = [.str a] ∧ Q (.str a) H
theorem call_strU {X : Cx} : CallR X (.type "str") rStrU := fun pins s σ H xs us Q I rx h => by
  rcases h with h | h
  · exact call_str_int pins s σ H xs us Q I rx h
  · exact SkE.call_str_str pins s σ H xs us Q I rx h
def rIntS : List V → Hp → VK → Prop := fun xs H Q => ∃ a n, xs = [.str a] ∧ PySem.intText? a = some n ∧ a.length ≤ 640 ∧ Q (.int n) H
theorem call_intS {X : Cx} : CallR X (.type "int") rIntS := call_int_str
def rNotSign : R2 := fun x y H Q => ∃ (c : Nat) (z : Str), x = .str ⟨#[c]⟩ ∧ y = .str z ∧ Q (.bl (!decide (c ∈ z.cps.toList))) H
theorem op_notSign {X : Cx} : OpR X (compareOp .NotIn) rNotSign := op_notIn_sign
theorem figs_mem (c : Nat) : c ∈ ("0123456789" : Str).cps.toList ↔ 48 ≤ c ∧ c ≤ 57 := by
  have e : ("0123456789" : Str).cps.toList = [48, 49, 50, 51, 52, 53, 54, 55, 56, 57] := by decide +kernel
  rw [e]
  simp only [List.mem_cons, List.mem_nil_iff, or_false]
  omega
theorem z_iStr {te : TE} {σ : L2.St} {H : Hp} {R : It → Hp → Prop} (h : te σ H fun v H1 => ∃ x, v = .str x ∧ R (Its x) H1) : iStr te σ H R := h
theorem z_neB {K : PySem.W.Frag} {H : Hp} {Q : VK} {i j : Bool} (k : Q (.bl (!decide (i = j))) H) : rNeU K (.bl i) (.bl j) H Q := .inl ⟨rfl, by
  have e : decide (V.bl i = V.bl j) = decide (i = j) := by by_cases h : i = j <;> simp [h]
  rw [e]; exact k⟩
theorem vals_words {dd : Deed} {i : Nat} {x : V} (h : dd.vals[i]? = some x) : ∃ y, dd.words[i]? = some y ∧ (x = .str y ∨ ∃ n, x = .int n ∧ y = numT n ∧ n ∈ dd.args) := by
  cases i with
  | zero =>
    have h : some (V.str dd.name) = some x := h
    obtain rfl := Option.some.inj h
    exact ⟨dd.name, rfl, .inl rfl⟩
  | succ i =>
    have h : (dd.args.map V.int)[i]? = some x := h
    rw [List.getElem?_map] at h
    cases e : dd.args[i]? with
    | none => rw [e] at h; cases h
    | some n =>
      rw [e] at h
      obtain rfl := Option.some.inj h
      exact ⟨numT n, by show (dd.args.map numT)[i]? = _; rw [List.getElem?_map, e]; rfl, .inr ⟨n, rfl, rfl, List.mem_of_getElem? e⟩⟩
theorem join_snoc (sep y : Str) : ∀ (x : Str) (l : List Str), Txt.join sep ((x :: l) ++ [y]) = Txt.join sep (x :: l) ++ sep ++ y := fun x l => by
  refine TL.ext_tl ?_
  rw [TL.join_eq, TL.tl_join, TL.tl_append, TL.tl_append, TL.join_eq, TL.tl_join, List.map_append]
  have : ∀ (S p q : List Nat) (l : List (List Nat)), TL.joinL S ((p :: l) ++ [q]) = TL.joinL S (p :: l) ++ S ++ q := fun S p q l => by
    induction l generalizing p with
    | nil => simp [TL.joinL]
    | cons r l ih =>
      have e1 : TL.joinL S ((p :: r :: l) ++ [q]) = p ++ (S ++ TL.joinL S ((r :: l) ++ [q])) := rfl
      have e2 : TL.joinL S (p :: r :: l) = p ++ (S ++ TL.joinL S (r :: l)) := rfl
      rw [e1, ih, e2]; simp
  exact this _ _ _ _
theorem join_one (sep x : Str) : Txt.join sep [x] = x := TL.ext_tl (by rw [TL.join_eq, TL.tl_join]; rfl)
def optV : Option Int → V
  | none => .non
  | some x => .int x
theorem inV_opt : ∀ l : List (Option Int), inV .non (l.map optV) = decide (none ∈ l)
  | [] => rfl
  | none :: l => by
    have e : inV .non ((none :: l).map optV) = true := rfl
    rw [e, decide_eq_true (by simp)]
  | some x :: l => by
    have e : inV .non ((some x :: l).map optV) = inV .non (l.map optV) := by
      show (false || inV .non (l.map optV)) = _
      rw [Bool.false_or]
    rw [e, inV_opt l]
    by_cases h : none ∈ l <;> simp [h]
theorem flat_opt (l : List (Option Int)) : (l.map optV).all flatV = true := by
  rw [List.all_eq_true]
  intro v hv
  obtain ⟨o, _, rfl⟩ := List.mem_map.mp hv
  cases o <;> rfl
theorem opts_some {α : Type} {f : α → Option Int} : ∀ {l : List α}, none ∉ l.map f → ∃ ns, l.mapM f = some ns ∧ (l.map f).map optV = ns.map V.int
  | [], _ => ⟨[], rfl, rfl⟩
  | x :: l, h => by
    rw [List.map_cons, List.mem_cons, not_or] at h
    obtain ⟨ns, e1, e2⟩ := opts_some h.2
    cases e : f x with
    | none => exact absurd e.symm h.1
    | some y => exact ⟨y :: ns, by rw [List.mapM_cons, e, e1]; rfl, by rw [List.map_cons, List.map_cons, e, e2]; rfl⟩
theorem opts_none {α : Type} {f : α → Option Int} {l : List α} (h : none ∈ l.map f) : l.mapM f = none := by
  obtain ⟨x, hx, e⟩ := List.mem_map.mp h
  exact mapM_none hx e
theorem names_not {w : Str} {r : List Str} (h : w ∉ names8) : (if shapesL.lookup w = some ((r.length : Nat) : Int) then (r.mapM numOf).map fun ns => (w, ns) else none) = none := by
  rw [name_no h, if_neg (by intro z; cases z)]
theorem join_bound {a : Str} {ys : List Str} {n m : Nat} (h1 : ys.length ≤ m) (h2 : ∀ y ∈ ys, y.length ≤ n) (h3 : a.length ≤ 1) : (ys.map (·.length)).sum + ys.length * a.length ≤ m * n + m := by
  have h := sum_le (l := ys.map (·.length)) (n := n) fun x hx => by
    obtain ⟨y, hy, rfl⟩ := List.mem_map.mp hx
    exact h2 y hy
  rw [List.length_map] at h
  have h4 := Nat.mul_le_mul_right n h1
  have h5 := Nat.mul_le_mul h1 h3
  omega
theorem app_len (x y : Str) : (x ++ y).length = x.length + y.length := by rw [TL.len_tl, TL.tl_append, List.length_append, ← TL.len_tl, ← TL.len_tl]
theorem map_setS (l : List Str) (n : Nat) (v : Str) : (l.map V.str).set n (.str v) = (l.set n v).map V.str := by rw [List.map_set]
theorem dpt_intsE : ∀ l : List Int, dptAll (l.map PyData.int) = 0
  | [] => rfl
  | x :: l => by simp [dptAll, dpt, dpt_intsE l]
/-! tuples that are no deeds -/
theorem noDeed_more (dd : Deed) (d : PyData) (h : isDeed dd.items = true) : isDeed (dd.items ++ [d]) = false := by
  have e : dd.items ++ [d] = .str dd.name :: (dd.args.map PyData.int ++ [d]) := rfl
  rw [e]
  show (decide (shapesL.lookup dd.name = some ((dd.args.map PyData.int ++ [d]).length : Int)) && (dd.args.map PyData.int ++ [d]).all numOk) = false
  rw [deed_shape h, decide_eq_false (fun z => by
    have z := Option.some.inj z
    simp at z
    omega)]
  rfl
theorem name_s (dd : Deed) : shapesL.lookup (dd.name ++ "s") = none := by cases dd <;> (simp only [Deed.name]; decide +kernel)
theorem noDeed_name (dd : Deed) : isDeed (.str (dd.name ++ "s") :: dd.args.map PyData.int) = false := by
  show (decide (shapesL.lookup (dd.name ++ "s") = some ((dd.args.map PyData.int).length : Int)) && (dd.args.map PyData.int).all numOk) = false
  rw [name_s]; rfl
theorem noDeed_neg (w : Str) (r : List PyData) (i : Int) (h : i < 0) : isDeed (.str w :: .int i :: r) = false := by
  show (decide (shapesL.lookup w = some ((PyData.int i :: r).length : Int)) && (PyData.int i :: r).all numOk) = false
  have e : numOk (.int i) = false := decide_eq_false (by omega)
  rw [List.all_cons, e, Bool.false_and, Bool.and_false]
theorem items_dv {H : Hp} (dd : Deed) : DvAll H dd.vals dd.items := .cons (.str _) (DvAll.ints _)
theorem items_isI (dd : Deed) : ∀ d ∈ dd.items, isIS d = true := fun d hd => by
  rcases List.mem_cons.mp hd with rfl | hd
  · rfl
  · obtain ⟨x, _, rfl⟩ := List.mem_map.mp hd; rfl
end Mur
namespace Mur
open PySem hiding start
open PySem.Spec L2
open PyProof.Rows hiding St
local macro_rules | `(tactic| walk_at "y1") => `(tactic| first
  | ((with_reducible refine' z_start ?zt ?_); (case zt => repeat constructor))
  | with_reducible refine z_seq ?_ | with_reducible refine z_asg ?_ | with_reducible refine z_op ?_ | ((with_reducible refine' z_var ?zv ?_); (case zv => exact rfl)) | with_reducible refine z_c ?_
  | with_reducible refine z_cons ?_ | with_reducible refine z_nil ?_ | with_reducible refine z_addI ?_ | with_reducible refine z_I0 ?_ | with_reducible refine z_eqI ?_ | with_reducible refine z_neI ?_ | with_reducible refine z_isN ?_ | with_reducible refine z_isB ?_
  | with_reducible refine z_eqS ?_ | with_reducible refine z_neS ?_ | with_reducible refine z_tTest ?_ | with_reducible refine z_tB ?_ | with_reducible refine z_bl ?_ | with_reducible refine z_blQ ?_
  | ((with_reducible refine' z_name ?zs ?_); (case zs => repeat constructor)) | with_reducible refine z_next ?_ | with_reducible refine z_ret ?_ | with_reducible refine z_retN ?_ | with_reducible refine z_drop ?_
  | with_reducible refine z_call ?_ | with_reducible refine z_callS ?_ | with_reducible refine z_cb ?_ | with_reducible refine z_and ?_ | with_reducible refine z_or ?_ | with_reducible refine z_not ?_ | with_reducible refine z_un ?_ | with_reducible refine z_U ?_ | with_reducible refine z_tup ?_ | with_reducible refine z_lst ?_
  | with_reducible refine z_par ?_ | ((with_reducible refine' z_par2 ?za ?zb ?_); (case za => repeat constructor); (case zb => repeat constructor))
  | with_reducible refine z_andV ?_ | with_reducible refine z_orV ?_ | with_reducible refine z_notV ?_ | with_reducible refine z_ifE ?_ | with_reducible refine z_chain ?_
  | with_reducible refine z_bm ?_ | with_reducible refine z_bm0 ?_ | with_reducible refine z_fld ?_ | with_reducible refine z_sfld ?_ | with_reducible refine z_dnewT ?_ | with_reducible refine z_augS ?_ | with_reducible refine z_gSub ?_ | with_reducible refine z_ipI ?_ | with_reducible refine z_lc ?_ | with_reducible refine z_tyes ?_ | with_reducible refine z_dnotin ?_ | with_reducible refine z_din ?_ | with_reducible refine z_dget ?_ | with_reducible refine z_dput ?_ | with_reducible refine z_dnewK ?_ | with_reducible refine z_meth ?_ | with_reducible refine z_lset ?_ | with_reducible refine z_sl ?_ | with_reducible refine z_noP ?_ | with_reducible refine z_part ?_ | with_reducible refine z_dget2 ?_ | with_reducible refine z_dget1 ?_ | with_reducible refine z_dpop ?_ | with_reducible refine z_kget ?_ | with_reducible refine z_revL ?_ | with_reducible refine z_keys ?_ | with_reducible refine z_enum ?_ | with_reducible refine z_methSl ?_ | with_reducible refine z_someI ?_ | with_reducible refine z_abs ?_ | with_reducible refine z_int1 ?_ | with_reducible refine z_intB ?_
  | with_reducible refine iteT ?_ | with_reducible refine iteF ?_ | with_reducible refine z_ntrue ?_ | with_reducible refine z_nfalse ?_ | with_reducible refine z_for ?_ | with_reducible refine z_zipA ?_ | with_reducible refine z_iList ?_ | with_reducible refine z_iTup ?_ | with_reducible refine z_rng1 ?_ | with_reducible refine z_rng2 ?_ | with_reducible refine z_gCons ?_ | with_reducible refine z_gNil ?_)
local macro_rules | `(tactic| walk_at "z1") => `(tactic| first | walk_at "y1" | with_reducible refine z_if ?_)
local macro_rules | `(tactic| walk_at "y") => `(tactic| repeat walk_at "y1")
local macro_rules | `(tactic| walk_at "z") => `(tactic| repeat walk_at "z1")
local macro_rules | `(tactic| walk_at "hs") => `(tactic| repeat (first | assumption | exact upd_same | refine same_to (by assumption) ?_))
local macro_rules | `(tactic| walk_at "zn") => `(tactic| (intro p hp; generalize hH : upd _ p _ = H2; have hs2 := new_same hp hH; have he2 := new_at hH; clear hH))
local macro_rules | `(tactic| walk_at "zt") => `(tactic| (refine ⟨sz1000 (by simp), ?_⟩; walk_at "zn"))
local macro_rules | `(tactic| walk_at "zw") => `(tactic| simp only [L2.wipe, List.map_cons, List.map_nil, List.set_cons_zero, List.set_cons_succ])
abbrev shapesT : List (Str × Int) := shapesL
def top (i : Nat) : Stmt := PySem.Challenge.pw_murrine_k17_lines_read.main.body.getD i (.Pass ⟨0, 0, 0, 0⟩)
abbrev sis_deed : Stmt := top 8
abbrev swritten : Stmt := top 9
abbrev s_law_number_of : Stmt := top 20
abbrev s_law_meant : Stmt := top 21
abbrev s_law_cell : Stmt := top 13
abbrev s_law_tuple : Stmt := top 14
abbrev snumber_in : Stmt := top 10
abbrev sread : Stmt := top 11
abbrev s_law_whole : Stmt := top 18
abbrev s_law_like : Stmt := top 19
abbrev s_law_sign : Stmt := top 15
abbrev s_law_piece : Stmt := top 22
abbrev s_law_row : Stmt := top 16
abbrev s_law_word : Stmt := top 17
abbrev slaw : Stmt := top 23
structure Tx (w : World) (K : PySem.W.Frag) (mg : Str → Option Value) : Prop where
  gis_deed : mg "is_deed" = some (.ref (He.ga K "is_deed"))
  gwritten : mg "written" = some (.ref (He.ga K "written"))
  g_law_number_of : mg "_law_number_of" = some (.ref (He.ga K "_law_number_of"))
  g_law_meant : mg "_law_meant" = some (.ref (He.ga K "_law_meant"))
  g_law_cell : mg "_law_cell" = some (.ref (He.ga K "_law_cell"))
  g_law_tuple : mg "_law_tuple" = some (.ref (He.ga K "_law_tuple"))
  gnumber_in : mg "number_in" = some (.ref (He.ga K "number_in"))
  gread : mg "read" = some (.ref (He.ga K "read"))
  g_law_whole : mg "_law_whole" = some (.ref (He.ga K "_law_whole"))
  g_law_like : mg "_law_like" = some (.ref (He.ga K "_law_like"))
  g_law_sign : mg "_law_sign" = some (.ref (He.ga K "_law_sign"))
  g_law_piece : mg "_law_piece" = some (.ref (He.ga K "_law_piece"))
  g_law_row : mg "_law_row" = some (.ref (He.ga K "_law_row"))
  g_law_word : mg "_law_word" = some (.ref (He.ga K "_law_word"))
  glaw : mg "law" = some (.ref (He.ga K "law"))
  gGlassError : mg "GlassError" = some (.ref (He.ga K "GlassError"))
  eGlassError : PySem.W.excIn K (He.ga K "GlassError") He.veBase "ValueError.__new__" = true ∧ PySem.W.keepIn K (.ref (He.ga K "GlassError")) = true ∧ PySem.W.subIn K (.ref (He.ga K "GlassError")) (.type "BaseException") = some true ∧ PySem.W.typeIn K (.ref (He.ga K "GlassError")) = some (.type "type")
  gBadDeed : mg "BadDeed" = some (.ref (He.ga K "BadDeed"))
  eBadDeed : PySem.W.excIn K (He.ga K "BadDeed") He.veBase "ValueError.__new__" = true ∧ PySem.W.keepIn K (.ref (He.ga K "BadDeed")) = true ∧ PySem.W.subIn K (.ref (He.ga K "BadDeed")) (.type "BaseException") = some true ∧ PySem.W.typeIn K (.ref (He.ga K "BadDeed")) = some (.type "type")
  gBadLine : mg "BadLine" = some (.ref (He.ga K "BadLine"))
  eBadLine : PySem.W.excIn K (He.ga K "BadLine") He.veBase "ValueError.__new__" = true ∧ PySem.W.keepIn K (.ref (He.ga K "BadLine")) = true ∧ PySem.W.subIn K (.ref (He.ga K "BadLine")) (.type "BaseException") = some true ∧ PySem.W.typeIn K (.ref (He.ga K "BadLine")) = some (.type "type")
  xBadDeed_GlassError : PySem.W.exmOne K (.ref (He.ga K "BadDeed")) (.ref (He.ga K "GlassError")) = some true
  xBadLine_BadLine : PySem.W.exmOne K (.ref (He.ga K "BadLine")) (.ref (He.ga K "BadLine")) = some true
  gSHAPES : mg "SHAPES" = some (.ref (He.ga K "SHAPES"))
  uValueError : mg "ValueError" = none
  uabs : mg "abs" = none
  ubool : mg "bool" = none
  uint : mg "int" = none
  uisinstance : mg "isinstance" = none
  ulen : mg "len" = none
  ulist : mg "list" = none
  urange : mg "range" = none
  ustr : mg "str" = none
  utuple : mg "tuple" = none
  uzip : mg "zip" = none
  iMOST : ∃ t, mg "MOST" = some (.int 999999999999999999 t)
  zFIGURES : ∃ t, mg "FIGURES" = some (.str "0123456789" t)
  tSHAPES : Tabl K w (He.ga K "SHAPES") shapesT
  fis_deed : ∃ fd, FunD K "is_deed" "is_deed" (defArgs sis_deed) (defBody sis_deed) (defScope sis_deed) [] [] (He.ga K "is_deed") fd
  fwritten : ∃ fd, FunD K "written" "written" (defArgs swritten) (defBody swritten) (defScope swritten) [] [] (He.ga K "written") fd
  f_law_number_of : ∃ fd, FunD K "_law_number_of" "_law_number_of" (defArgs s_law_number_of) (defBody s_law_number_of) (defScope s_law_number_of) [] [] (He.ga K "_law_number_of") fd
  f_law_meant : ∃ fd, FunD K "_law_meant" "_law_meant" (defArgs s_law_meant) (defBody s_law_meant) (defScope s_law_meant) [] [] (He.ga K "_law_meant") fd
  f_law_cell : ∃ fd, FunD K "_law_cell" "_law_cell" (defArgs s_law_cell) (defBody s_law_cell) (defScope s_law_cell) [] [] (He.ga K "_law_cell") fd
  f_law_tuple : ∃ fd, FunD K "_law_tuple" "_law_tuple" (defArgs s_law_tuple) (defBody s_law_tuple) (defScope s_law_tuple) [] [] (He.ga K "_law_tuple") fd
  fnumber_in : ∃ fd, FunD K "number_in" "number_in" (defArgs snumber_in) (defBody snumber_in) (defScope snumber_in) [] [] (He.ga K "number_in") fd
  fread : ∃ fd, FunD K "read" "read" (defArgs sread) (defBody sread) (defScope sread) [] [] (He.ga K "read") fd
  f_law_whole : ∃ fd, FunD K "_law_whole" "_law_whole" (defArgs s_law_whole) (defBody s_law_whole) (defScope s_law_whole) [] [] (He.ga K "_law_whole") fd
  f_law_like : ∃ fd, FunD K "_law_like" "_law_like" (defArgs s_law_like) (defBody s_law_like) (defScope s_law_like) [] [] (He.ga K "_law_like") fd
  f_law_sign : ∃ fd, FunD K "_law_sign" "_law_sign" (defArgs s_law_sign) (defBody s_law_sign) (defScope s_law_sign) [] [] (He.ga K "_law_sign") fd
  f_law_piece : ∃ fd, FunD K "_law_piece" "_law_piece" (defArgs s_law_piece) (defBody s_law_piece) (defScope s_law_piece) [] [] (He.ga K "_law_piece") fd
  f_law_row : ∃ fd, FunD K "_law_row" "_law_row" (defArgs s_law_row) (defBody s_law_row) (defScope s_law_row) [] [] (He.ga K "_law_row") fd
  f_law_word : ∃ fd, FunD K "_law_word" "_law_word" (defArgs s_law_word) (defBody s_law_word) (defScope s_law_word) [] [] (He.ga K "_law_word") fd
  flaw : ∃ fd, FunD K "law" "law" (defArgs slaw) (defBody slaw) (defScope slaw) [] [] (He.ga K "law") fd
def spLaw (K : PySem.W.Frag) : Sp := fun vs H Q _ => ∃ (a : Addr) (ns : List Int), vs = [.ref a] ∧ SqL K H a (ns.map V.int) ∧ ns.length ≤ 63 ∧ (∀ z ∈ ns, Builtin.Int.intBits z ≤ 1048576) ∧ ∀ H', Q (.bl true) H'

def dis_deed : He.DefD := ⟨("is_deed", none), "is_deed", "is_deed", defArgs sis_deed, defBody sis_deed, defScope sis_deed, [], []⟩
def dwritten : He.DefD := ⟨("written", none), "written", "written", defArgs swritten, defBody swritten, defScope swritten, [], []⟩
def d_law_number_of : He.DefD := ⟨("_law_number_of", none), "_law_number_of", "_law_number_of", defArgs s_law_number_of, defBody s_law_number_of, defScope s_law_number_of, [], []⟩
def d_law_meant : He.DefD := ⟨("_law_meant", none), "_law_meant", "_law_meant", defArgs s_law_meant, defBody s_law_meant, defScope s_law_meant, [], []⟩
def d_law_cell : He.DefD := ⟨("_law_cell", none), "_law_cell", "_law_cell", defArgs s_law_cell, defBody s_law_cell, defScope s_law_cell, [], []⟩
def d_law_tuple : He.DefD := ⟨("_law_tuple", none), "_law_tuple", "_law_tuple", defArgs s_law_tuple, defBody s_law_tuple, defScope s_law_tuple, [], []⟩
def dnumber_in : He.DefD := ⟨("number_in", none), "number_in", "number_in", defArgs snumber_in, defBody snumber_in, defScope snumber_in, [], []⟩
def dread : He.DefD := ⟨("read", none), "read", "read", defArgs sread, defBody sread, defScope sread, [], []⟩
def d_law_whole : He.DefD := ⟨("_law_whole", none), "_law_whole", "_law_whole", defArgs s_law_whole, defBody s_law_whole, defScope s_law_whole, [], []⟩
def d_law_like : He.DefD := ⟨("_law_like", none), "_law_like", "_law_like", defArgs s_law_like, defBody s_law_like, defScope s_law_like, [], []⟩
def d_law_sign : He.DefD := ⟨("_law_sign", none), "_law_sign", "_law_sign", defArgs s_law_sign, defBody s_law_sign, defScope s_law_sign, [], []⟩
def d_law_piece : He.DefD := ⟨("_law_piece", none), "_law_piece", "_law_piece", defArgs s_law_piece, defBody s_law_piece, defScope s_law_piece, [], []⟩
def d_law_row : He.DefD := ⟨("_law_row", none), "_law_row", "_law_row", defArgs s_law_row, defBody s_law_row, defScope s_law_row, [], []⟩
def d_law_word : He.DefD := ⟨("_law_word", none), "_law_word", "_law_word", defArgs s_law_word, defBody s_law_word, defScope s_law_word, [], []⟩
def dlaw : He.DefD := ⟨("law", none), "law", "law", defArgs slaw, defBody slaw, defScope slaw, [], []⟩
def hfn0 : List He.DefD := [dis_deed, dwritten, d_law_number_of, d_law_meant, d_law_cell, d_law_tuple, dnumber_in, dread, d_law_whole, d_law_like, d_law_sign, d_law_piece, d_law_row, d_law_word, dlaw]
def hfn : List He.DefD := hfn0
def hfa0 : List He.Fa := [.glo "is_deed", .glo "written", .glo "_law_number_of", .glo "_law_meant", .glo "_law_cell", .glo "_law_tuple", .glo "number_in", .glo "read", .glo "_law_whole", .glo "_law_like", .glo "_law_sign", .glo "_law_piece", .glo "_law_row", .glo "_law_word", .glo "law", .glo "GlassError", .exc "GlassError", .glo "BadDeed", .exc "BadDeed", .glo "BadLine", .exc "BadLine", .exm "BadDeed" "GlassError" true, .exm "BadLine" "BadLine" true, .glo "SHAPES", .free "ValueError"]
def hfa1 : List He.Fa := [.free "abs", .free "bool", .free "int", .free "isinstance", .free "len", .free "list", .free "range", .free "str", .free "tuple", .free "zip", .int "MOST" 999999999999999999, .str "FIGURES" "0123456789"]
def hfa : List He.Fa := hfa0 ++ hfa1
def hloose0 : List Str := ["GlassError", "BadDeed", "BadLine", "SHAPES", "FIGURES", "MOST", "is_deed", "written", "number_in", "read", "_law_cell", "_law_tuple", "_law_sign", "_law_row", "_law_word", "_law_whole", "_law_like", "_law_number_of", "_law_meant", "_law_piece"]
def hloose : List Str := hloose0
abbrev hR : PySem.W.OpenRow := PySem.W.OpenLaw.row PySem.Challenge.rw_murrine_k17_lines_read
abbrev hk : PySem.W.Hook := hookV 4 hfa hfn "SHAPES" shapesT
def hob (s : PySem.W.SharedT) : AlV := obsVG 4 hfa hfn "SHAPES" (HandSHeadRun.getT s)
theorem hob_eq (s : PySem.W.SharedT) : hob s = hk.obs s.abs := obsVG_eq (HandSHeadRun.getT_eq s)
abbrev hRun (w : World) : Prop := HandSHeadRun.RunEq hR (PySem.W.view hR.prog [23]) hk hob 8000 hloose w
theorem hrunF (w : World) : hRun (w.withFollow "special-get-raises" false) := by
  intro os
  kernel_rfl
theorem hrunT (w : World) : hRun (w.withFollow "special-get-raises" true) := by
  intro os
  kernel_rfl
theorem hrun (w : World) : hRun w := PySem.W.byRow2 "special-get-raises" (P := hRun) hrunF hrunT w
theorem tx_of {w : World} {K : PySem.W.Frag} {h : Heap} {mg : Str → Option Value} (X : K.In h) (G : h.Ns mainGlobals mg) (c : SaysV hfa hfn "SHAPES" shapesT w K) : Tx w K mg where
  gis_deed := He.glo_ok X G (c.d.fact 0 rfl)
  gwritten := He.glo_ok X G (c.d.fact 1 rfl)
  g_law_number_of := He.glo_ok X G (c.d.fact 2 rfl)
  g_law_meant := He.glo_ok X G (c.d.fact 3 rfl)
  g_law_cell := He.glo_ok X G (c.d.fact 4 rfl)
  g_law_tuple := He.glo_ok X G (c.d.fact 5 rfl)
  gnumber_in := He.glo_ok X G (c.d.fact 6 rfl)
  gread := He.glo_ok X G (c.d.fact 7 rfl)
  g_law_whole := He.glo_ok X G (c.d.fact 8 rfl)
  g_law_like := He.glo_ok X G (c.d.fact 9 rfl)
  g_law_sign := He.glo_ok X G (c.d.fact 10 rfl)
  g_law_piece := He.glo_ok X G (c.d.fact 11 rfl)
  g_law_row := He.glo_ok X G (c.d.fact 12 rfl)
  g_law_word := He.glo_ok X G (c.d.fact 13 rfl)
  glaw := He.glo_ok X G (c.d.fact 14 rfl)
  gGlassError := He.glo_ok X G (c.d.fact 15 rfl)
  eGlassError := He.exc_ok (c.d.fact 16 rfl)
  gBadDeed := He.glo_ok X G (c.d.fact 17 rfl)
  eBadDeed := He.exc_ok (c.d.fact 18 rfl)
  gBadLine := He.glo_ok X G (c.d.fact 19 rfl)
  eBadLine := He.exc_ok (c.d.fact 20 rfl)
  xBadDeed_GlassError := He.exm_ok (c.d.fact 21 rfl)
  xBadLine_BadLine := He.exm_ok (c.d.fact 22 rfl)
  gSHAPES := He.glo_ok X G (c.d.fact 23 rfl)
  uValueError := He.free_ok X G (c.d.fact 24 rfl)
  uabs := He.free_ok X G (c.d.fact 25 rfl)
  ubool := He.free_ok X G (c.d.fact 26 rfl)
  uint := He.free_ok X G (c.d.fact 27 rfl)
  uisinstance := He.free_ok X G (c.d.fact 28 rfl)
  ulen := He.free_ok X G (c.d.fact 29 rfl)
  ulist := He.free_ok X G (c.d.fact 30 rfl)
  urange := He.free_ok X G (c.d.fact 31 rfl)
  ustr := He.free_ok X G (c.d.fact 32 rfl)
  utuple := He.free_ok X G (c.d.fact 33 rfl)
  uzip := He.free_ok X G (c.d.fact 34 rfl)
  iMOST := He.int_ok X G (c.d.fact 35 rfl)
  zFIGURES := He.str_ok X G (c.d.fact 36 rfl)
  tSHAPES := c.t
  fis_deed := c.d.def_ 0 (d := dis_deed) rfl
  fwritten := c.d.def_ 1 (d := dwritten) rfl
  f_law_number_of := c.d.def_ 2 (d := d_law_number_of) rfl
  f_law_meant := c.d.def_ 3 (d := d_law_meant) rfl
  f_law_cell := c.d.def_ 4 (d := d_law_cell) rfl
  f_law_tuple := c.d.def_ 5 (d := d_law_tuple) rfl
  fnumber_in := c.d.def_ 6 (d := dnumber_in) rfl
  fread := c.d.def_ 7 (d := dread) rfl
  f_law_whole := c.d.def_ 8 (d := d_law_whole) rfl
  f_law_like := c.d.def_ 9 (d := d_law_like) rfl
  f_law_sign := c.d.def_ 10 (d := d_law_sign) rfl
  f_law_piece := c.d.def_ 11 (d := d_law_piece) rfl
  f_law_row := c.d.def_ 12 (d := d_law_row) rfl
  f_law_word := c.d.def_ 13 (d := d_law_word) rfl
  flaw := c.d.def_ 14 (d := dlaw) rfl
abbrev nis_deed : List Str := ["deed", "part"]
abbrev pis_deed : List Str := ["deed"]
theorem scis_deed : FnScope nis_deed pis_deed (defScope sis_deed) := ⟨rfl, rfl, rfl, by decide +kernel, rfl, by decide +kernel, by decide +kernel⟩
theorem ok_is_deed {P : Program} {w : World} {K : PySem.W.Frag} {mg : Str → Option Value} {base : Heap} (T : Tx w K mg) : Fk P w K mg base 1 (He.ga K "is_deed") pis_deed (spIsDeed) := by
  refine Fk.mk' T.fis_deed scis_deed (fun _ _ _ _ _ _ us hl => match us, hl with | [_], _ => rfl) (by
  intro vs H Q E h
  repeat (first | (obtain ⟨h1, _⟩ := h; subst h1; rfl) | (obtain ⟨_, h⟩ := h))) (fun cdv A outer s H vs Q E hr h => ?_)
  have hu := hu_of hr
  have hu64 := hr.units
  refine ⟨_, (pss_cons (ps_if (PW.pt (pw_or (pt_cmpR (k_eq K hu64) (pe_callB (k_len K) (by rfl) T.ulen (by decide +kernel) (pa_cons (pv 0) pa_nil)) pe_int (nomark _)) (pw_or1 (pt_not (pt_val (pe_callB (k_isi K) (by rfl) T.uisinstance (by decide +kernel) (pa_cons (k_ix K (pv 0) pe_int (fun _ _ => rfl)) (pa_cons (pe_bltn (v := .ty "str") (by rfl) T.ustr (by decide +kernel) rfl) pa_nil)))))))) (pss_one (ps_ret pe_bl)) pss_nil)
  (pss_cons (ps_if (pt_cmpR (k_ne K hu64) (pe_kget1 K w (pe_glob (v := .ref (He.ga K "SHAPES")) (by rfl) T.gSHAPES rfl) (k_ix K (pv 0) pe_int (fun _ _ => rfl)) ⟨rfl, rfl, rfl, rfl⟩) (pe_op op_sub (pe_callB (k_len K) (by rfl) T.ulen (by decide +kernel) (pa_cons (pv 0) pa_nil)) pe_int) (nomark _)) (pss_one (ps_ret pe_bl)) pss_nil)
  (pss_cons (ps_for (passes_of rfl) rfl (k_pit K (pe_slice (k_slt K) (pv 0) (po_some pe_int) po_none)) (pg_name (i := 1) scis_deed.nd rfl (Or.inl rfl)) (pss_one (ps_if (PW.pt (pw_or (pt_not (pt_val (pe_callB (k_isi K) (by rfl) T.uisinstance (by decide +kernel) (pa_cons (pv 1) (pa_cons (pe_bltn (v := .ty "int") (by rfl) T.uint (by decide +kernel) rfl) pa_nil))))) (pw_or (pt_cmpR op_lt (pv 1) pe_int (nomark _)) (pw_or1 (pt_cmpR op_gt (pv 1) (q_int T.iMOST) (nomark _)))))) (pss_one (ps_ret pe_bl)) pss_nil)))
  (pss_one (ps_ret pe_bl))))), ?_⟩
  try dsimp only [cxOf]
  obtain ⟨a, xs, ds, rfl, ha, hd, his, q⟩ := h
  have hl := hd.len
  walk_at "z"
  refine z_lenT (SqT.of ha) ?_
  walk_at "z"
  refine z_ite (fun c0 => ?_) (fun c0 => ?_)
  · walk_at "z"
    cases hd with
    | nil => exact q H (Same.refl H)
    | cons _ _ => simp at c0; omega
  walk_at "z"
  cases hd with
  | nil => simp at c0
  | @cons v vs d r hv hr =>
  refine z_ixT (SqT.of ha) (atI_of (n := 0) rfl rfl) ?_
  walk_at "z"
  have his0 := his d (by simp)
  cases hv with
  | non => cases his0
  | bl b => cases his0
  | lst _ _ => cases his0
  | tup _ _ => cases his0
  | int i =>
    refine z_isI false (by decide +kernel) ?_
    walk_at "z"
    exact q H (Same.refl H)
  | str z =>
    refine z_isS true (by decide +kernel) ?_
    walk_at "z"
    refine ⟨_, _, rfl, T.tSHAPES, ?_⟩
    walk_at "z"
    refine z_ixT (SqT.of ha) (atI_of (n := 0) rfl rfl) ?_
    refine ⟨z, rfl, ?_⟩
    walk_at "z"
    refine z_lenT (SqT.of ha) ?_
    walk_at "z"
    have el : (((V.str z :: vs).length : Nat) : Int) - 1 = (r.length : Nat) := by
      have := hr.len
      simp [this]
    rw [el]
    cases hs : shapesT.lookup z with
    | none =>
      have e1 : tabV shapesT z = .non := by unfold tabV; rw [hs]
      have e2 : isDeed (.str z :: r) = false := by
        show (decide (shapesT.lookup z = some (r.length : Int)) && r.all numOk) = false
        rw [hs]; rfl
      rw [e1]
      refine .inl ⟨rfl, ?_⟩
      walk_at "z"
      refine z_yesN (by intro z; cases z) ?_
      walk_at "z"
      rw [e2] at q
      exact q H (Same.refl H)
    | some m =>
      have e1 : tabV shapesT z = .int m := by unfold tabV; rw [hs]
      rw [e1]
      walk_at "z"
      refine z_iteN (fun c1 => ?_) (fun c1 => ?_)
      · walk_at "z"
        have e2 : isDeed (.str z :: r) = false := by
          show (decide (shapesT.lookup z = some (r.length : Int)) && r.all numOk) = false
          rw [hs, decide_eq_false (fun x => c1 (Option.some.inj x))]
          rfl
        rw [e2] at q
        exact q H (Same.refl H)
      walk_at "z"
      have e2 : isDeed (.str z :: r) = r.all numOk := by
        show (decide (shapesT.lookup z = some (r.length : Int)) && r.all numOk) = r.all numOk
        rw [hs, decide_eq_true (by rw [c1])]
        rfl
      rw [e2] at q
      refine z_slT ha (cut_from _ 1) ?_
      intro p H2 s2 f2
      have hr2 := dvAll_same s2 hr
      refine ⟨p, rfl, ⟨_, SqT.of f2⟩, ?_⟩
      refine for_tup (K := K) (a := p) (xs := vs) (fun i σ H' => H' = H2 ∧ (r.take i).all numOk = true ∧ ∃ x, σ = [some (.ref a), x]) ⟨rfl, rfl, _, rfl⟩ (fun i σ H' _ h => by rw [h.1]; exact SqT.of f2) ?_ ?_
      · rintro i x σ H' hi ⟨rfl, hall, y, rfl⟩
        obtain ⟨e, he, hv⟩ := hr2.get hi
        have hise := his e (by simp [List.mem_of_getElem? he])
        have em := List.mem_of_getElem? he
        walk_at "z"
        cases hv with
        | non => cases hise
        | bl b => cases hise
        | lst _ _ => cases hise
        | tup _ _ => cases hise
        | str y =>
          refine z_isS false (by decide +kernel) ?_
          walk_at "z"
          have : r.all numOk = false := by
            rw [List.all_eq_false]
            exact ⟨_, em, by simp [numOk]⟩
          rw [this] at q
          exact q _ s2
        | int n =>
          refine z_isI true (by decide +kernel) ?_
          walk_at "z"
          refine z_ite (fun c2 => ?_) (fun c2 => ?_)
          · walk_at "z"
            have : r.all numOk = false := by
              rw [List.all_eq_false]
              exact ⟨_, em, by simp [numOk]; omega⟩
            rw [this] at q
            exact q _ s2
          walk_at "z"
          refine z_ite (fun c3 => ?_) (fun c3 => ?_)
          · walk_at "z"
            have : r.all numOk = false := by
              rw [List.all_eq_false]
              exact ⟨_, em, by simp [numOk]; omega⟩
            rw [this] at q
            exact q _ s2
          walk_at "z"
          refine ⟨rfl, ?_, _, rfl⟩
          rw [List.take_add_one, he]
          simp only [Option.toList_some, List.all_append, List.all_cons, List.all_nil, hall, Bool.true_and, Bool.and_true, numOk]
          simp; omega
      · rintro σ H' ⟨rfl, hall, y, rfl⟩
        walk_at "z"
        rw [hr.len, List.take_of_length_le (Nat.le_refl _)] at hall
        rw [hall] at q
        exact q _ s2
def spWritten (B : Addr) : Sp := fun vs H Q E => ∃ a xs ds, vs = [.ref a] ∧ H a = some (.tup xs) ∧ DvAll H xs ds ∧ (∀ d ∈ ds, isIS d = true) ∧ (isDeed ds = false → ∀ H', Same H H' → E (.ref B) none H') ∧ (∀ dd : Deed, ds = dd.items → isDeed dd.items = true → ∀ H', Same H H' → Q (.str dd.line) H')
abbrev nwritten : List Str := ["deed", "part"]
abbrev pwritten : List Str := ["deed"]
theorem scwritten : FnScope nwritten pwritten (defScope swritten) := ⟨rfl, rfl, rfl, by decide +kernel, rfl, by decide +kernel, by decide +kernel⟩
theorem ok_written {P : Program} {w : World} {K : PySem.W.Frag} {mg : Str → Option Value} {base : Heap} (T : Tx w K mg) : Fk P w K mg base 2 (He.ga K "written") pwritten (spWritten (He.ga K "BadDeed")) := by
  have Gis_deed := ok_is_deed (P := P) (w := w) (base := base) T
  refine Fk.mk' T.fwritten scwritten (fun _ _ _ _ _ _ us hl => match us, hl with | [_], _ => rfl) (by
  intro vs H Q E h
  repeat (first | (obtain ⟨h1, _⟩ := h; subst h1; rfl) | (obtain ⟨_, h⟩ := h))) (fun cdv A outer s H vs Q E hr h => ?_)
  have hu := hu_of hr
  have hu64 := hr.units
  refine ⟨_, (pss_cons (ps_if (pt_not (pt_val (q_call Gis_deed (hr.mono (by omega)) T.gis_deed passX (pa_cons (pv 0) pa_nil)))) (pss_one (ps_raise rfl takesX (pmk_own PySem.F.excBase_ValueError T.eBadDeed.1 T.gBadDeed T.eBadDeed.2.1 (raises_own T.eBadDeed.2.2.1 T.eBadDeed.2.2.2) (by rfl)))) pss_nil)
  (pss_one (ps_ret (pe_join pe_str (pe_lc (own := [("part", 1)]) (g := gName 1) rfl scwritten.nd (k_pit K (pv 0)) (blkOk_by (own := [("part", 1)]) (N := nwritten) (sc := defScope swritten) (by decide +kernel)) (fun _ _ _ _ _ => pg_name (i := 1) scwritten.nd rfl (Or.inl rfl)) (fun _ _ _ _ _ => pts_nil) (fun _ _ _ _ _ => (pe_callTy call_strU (by rfl) T.ustr (by decide +kernel) (pa_cons (pv 1) pa_nil)))))))), ?_⟩
  try dsimp only [cxOf]
  obtain ⟨a, xs, ds, rfl, ha, hd, his, e, q⟩ := h
  walk_at "z"
  refine ⟨a, xs, ds, rfl, ha, hd, his, fun H1 s1 => ?_⟩
  walk_at "z"
  cases hb : isDeed ds with
  | false =>
    walk_at "z"
    exact e hb H1 s1
  | true =>
    walk_at "z"
    obtain ⟨dd, rfl⟩ := deed_of hb
    obtain rfl := vals_deed hd
    refine z_m1 ?_
    walk_at "z"
    refine ⟨⟨_, rfl⟩, ?_⟩
    walk_at "z"
    have ha1 := s1 _ _ ha
    refine ⟨a, rfl, ⟨_, SqT.of ha1⟩, fun L hL => ?_⟩
    have hL0 : H L = none := s1.free hL
    have naL : a ≠ L := ne_of_none ha1 hL
    have hw5 := args_len dd
    refine lc_tup (K := K) (a := a) (xs := dd.vals) (fun i H' => Same H H' ∧ H' a = some (.tup dd.vals) ∧ H' L = some (.lst ((dd.words.take i).map V.str))) ⟨s1.set hL0, by rw [upd_ne naL]; exact ha1, by rw [upd_same]; rfl⟩ (fun i H' _ h => SqT.of h.2.1) ?_ ?_
    · rintro i x H' hi ⟨t1, t2, t3⟩
      obtain ⟨y, ey, hy⟩ := vals_words hi
      walk_at "zw"
      walk_at "z"
      refine ⟨rfl, ?_⟩
      walk_at "z"
      have nx : ∃ acc, H' L = some (.lst acc) ∧ acc.length < sizeLine ∧ Same H (upd H' L (.lst (acc ++ [.str y]))) ∧ upd H' L (.lst (acc ++ [.str y])) a = some (.tup dd.vals) ∧ upd H' L (.lst (acc ++ [.str y])) L = some (.lst ((dd.words.take (i + 1)).map V.str)) :=
        ⟨_, t3, by rw [List.length_map, List.length_take, words_args_len]; exact szlt (by omega), t1.set hL0, by rw [upd_ne naL]; exact t2, by rw [upd_same, List.take_add_one, ey, List.map_append]; rfl⟩
      rcases hy with rfl | ⟨n, rfl, rfl, hn⟩
      · exact .inr ⟨y, rfl, nx⟩
      · have := deed_nums hb n hn
        exact .inl ⟨n, rfl, log_small this.1 this.2, nx⟩
    · rintro H' ⟨t1, t2, t3⟩
      rw [List.take_of_length_le (by simp [Deed.words, Deed.vals])] at t3
      refine ⟨_, _, dd.words, rfl, rfl, .inl (SqL.of t3), Nat.le_trans (sum_words hb) (by decide), ?_⟩
      exact q dd rfl hb _ t1
def spNumOf : Sp := fun vs H Q _ => ∃ z : Str, vs = [.str z] ∧ z.length ≤ 100000 ∧ Q (optV (numOf z)) H
abbrev n_law_number_of : List Str := ["_law_text", "_law_sign_here"]
abbrev p_law_number_of : List Str := ["_law_text"]
theorem sc_law_number_of : FnScope n_law_number_of p_law_number_of (defScope s_law_number_of) := ⟨rfl, rfl, rfl, by decide +kernel, rfl, by decide +kernel, by decide +kernel⟩
theorem ok__law_number_of {P : Program} {w : World} {K : PySem.W.Frag} {mg : Str → Option Value} {base : Heap} (T : Tx w K mg) : Fk P w K mg base 1 (He.ga K "_law_number_of") p_law_number_of (spNumOf) := by
  refine Fk.mk' T.f_law_number_of sc_law_number_of (fun _ _ _ _ _ _ us hl => match us, hl with | [_], _ => rfl) (by
  intro vs H Q E h
  repeat (first | (obtain ⟨h1, _⟩ := h; subst h1; rfl) | (obtain ⟨_, h⟩ := h))) (fun cdv A outer s H vs Q E hr h => ?_)
  have hu := hu_of hr
  have hu64 := hr.units
  refine ⟨_, (pss_cons (ps_if (PW.pt (pw_or (pt_cmpR (k_eq K hu64) (pv 0) pe_str (nomark _)) (pw_or (pt_cmpR op_gt (pe_callB (k_len K) (by rfl) T.ulen (by decide +kernel) (pa_cons (pv 0) pa_nil)) pe_int (nomark _)) (pw_or1 (PW.pt (pw_and (pt_cmpR (k_ne K hu64) (pv 0) pe_str (nomark _)) (pw_and1 (pt_cmpR (k_eq K hu64) (k_ix K (pv 0) pe_int (fun _ _ => rfl)) pe_str (nomark _))))))))) (pss_one (ps_ret pe_non)) pss_nil)
  (pss_cons (ps_for (passes_of rfl) rfl (pi_str (pv 0)) (pg_name (i := 1) sc_law_number_of.nd rfl (Or.inl rfl)) (pss_one (ps_if (pt_cmpR op_notIn_sign (pv 1) pe_str rfl) (pss_one (ps_ret pe_non)) pss_nil)))
  (pss_one (ps_ret (pe_callTy call_intS (by rfl) T.uint (by decide +kernel) (pa_cons (pv 0) pa_nil)))))), ?_⟩
  try dsimp only [cxOf]
  obtain ⟨z, rfl, hl, q⟩ := h
  have hz : z.length = (TL.tl z).length := TL.len_tl z
  have bad : numOf z = none → Q .non H := fun h => by rw [h] at q; exact q
  have e0 : TL.tl ("0" : Str) = [48] := by decide +kernel
  walk_at "y"
  refine z_joinIf (R := fun σ' H' => σ' = [some (.str z), none] ∧ H' = H ∧ ¬ (TL.tl z = [] ∨ 18 < (TL.tl z).length ∨ ((TL.tl z).head? = some 48 ∧ 1 < (TL.tl z).length))) (fun D' k rt => ?_) ?_
  · walk_at "z"
    refine z_ite (fun c => ?_) (fun c => ?_)
    · walk_at "z"
      refine rt _ _ (bad ?_)
      unfold numOf numL?
      rw [if_pos (.inl (by rw [c]; decide +kernel))]
    walk_at "z"
    refine z_lenS (sz1000 hl) ?_
    walk_at "z"
    refine z_ite (fun c2 => ?_) (fun c2 => ?_)
    · walk_at "z"
      refine rt _ _ (bad ?_)
      unfold numOf numL?
      rw [if_pos (.inr (.inl (by omega)))]
    walk_at "z"
    have hne : TL.tl z ≠ [] := fun h => c (TL.ext_tl (by rw [h]; decide +kernel))
    obtain ⟨c0, r, er⟩ : ∃ c0 r, TL.tl z = c0 :: r := by
      cases h : TL.tl z with
      | nil => exact absurd h hne
      | cons a b => exact ⟨a, b, rfl⟩
    refine z_iteN (fun c3 => ?_) (fun c3 => ?_)
    · walk_at "z"
      refine .inr (.inr ⟨z, 0, c0, rfl, rfl, sz1000 hl, ?_, ?_⟩)
      · have : atI (TL.tl z) ((0 : Nat) : Int) = some c0 := atI_nat (by rw [er]; rfl)
        exact this
      walk_at "z"
      refine z_ite (fun c4 => ?_) (fun c4 => ?_)
      · have e48 : c0 = 48 := by
          have := congrArg TL.tl c4
          rw [e0] at this
          have this : [c0] = [48] := this
          simpa using this
        walk_at "z"
        refine rt _ _ (bad ?_)
        have h1 : 1 < (TL.tl z).length := by
          rw [er]
          cases r with
          | nil => exact absurd (TL.ext_tl (by rw [er, e0, e48])) c3
          | cons a b => simp
        unfold numOf numL?
        rw [if_pos (.inr (.inr ⟨by rw [er, e48]; rfl, h1⟩))]
      · walk_at "z"
        refine k _ _ ⟨rfl, rfl, ?_⟩
        rintro (h | h | h)
        · exact hne h
        · omega
        · refine c4 (TL.ext_tl ?_)
          have h1 := h.1
          rw [er] at h1
          rw [e0, Option.some.inj h1]
    · walk_at "z"
      refine k _ _ ⟨rfl, rfl, ?_⟩
      rw [c3, e0]
      simp
  rintro σ' H' ⟨rfl, rfl, hc⟩
  walk_at "z"
  refine z_iStr ?_
  walk_at "z"
  refine ⟨z, rfl, ?_⟩
  have hsz : z.cps.size = (TL.tl z).length := by simp [TL.tl]
  refine ⟨fun i m σ H2 => i + m = z.cps.size ∧ H2 = H' ∧ (∀ (j : Nat) (c : Nat), j < i → (TL.tl z)[j]? = some c → 48 ≤ c ∧ c ≤ 57) ∧ ∃ x, σ = [some (.str z), x], ⟨z.cps.size, by omega, rfl, (fun j c hj => absurd hj (Nat.not_lt_zero _)), _, rfl⟩, ?_⟩
  rintro i m σ H2 ⟨hm, rfl, hd, x, rfl⟩
  by_cases hi : i < z.cps.size
  · refine .inr ⟨hi, fun σ' H' => H' = H2 ∧ (∀ (j : Nat) (c : Nat), j < i + 1 → (TL.tl z)[j]? = some c → 48 ≤ c ∧ c ≤ 57) ∧ ∃ x, σ' = [some (.str z), x], ?_, ?_⟩
    · rintro σ' H' ⟨rfl, h1, h2⟩
      exact ⟨m - 1, by omega, by omega, rfl, h1, h2⟩
    · rintro y H' ⟨rfl, c, ec, rfl⟩
      have ec' : (TL.tl z)[i]? = some c := by rw [← ec]; simp [TL.tl]
      walk_at "z"
      refine ⟨c, _, rfl, rfl, ?_⟩
      walk_at "z"
      refine z_iteN (fun c1 => ?_) (fun c1 => ?_)
      · walk_at "z"
        refine bad ?_
        unfold numOf numL?
        rw [if_neg hc, if_neg (fun h => ?_)]
        rw [List.all_eq_true] at h
        exact c1 ((figs_mem c).mpr (of_decide_eq_true (h c (List.mem_of_getElem? ec'))))
      · walk_at "z"
        refine ⟨rfl, fun j c' hj ej => ?_, _, rfl⟩
        by_cases hji : j < i
        · exact hd j c' hji ej
        · obtain rfl : j = i := by omega
          rw [ec'] at ej
          obtain rfl := Option.some.inj ej
          exact (figs_mem c).mp c1
  · refine .inl ⟨Nat.le_of_not_lt hi, ?_⟩
    walk_at "z"
    have hall : NumText.AllDigits (TL.tl z) := fun c hc => by
      obtain ⟨j, hj⟩ := List.getElem?_of_mem hc
      exact hd j c (by have := (List.getElem?_eq_some_iff.mp hj).1; omega) hj
    have hne : TL.tl z ≠ [] := fun h => hc (.inl h)
    refine ⟨z, _, rfl, PySem.intText_digits hall hne (by omega), by omega, ?_⟩
    have e1 : numOf z = some ((NumText.digitsVal (TL.tl z) : Nat) : Int) := by
      unfold numOf numL?
      rw [if_neg hc, if_pos (by
        rw [List.all_eq_true]
        exact fun c hc => decide_eq_true (hall c hc))]
    rw [e1] at q
    exact q
def spMeant : Sp := fun vs H Q _ => ∃ z : Str, vs = [.str z] ∧ z.length ≤ 50000 ∧ (∀ w ns, readOf z = some (w, ns) → ∀ H' t, Same H H' → H' t = some (.tup (.str w :: ns.map V.int)) → Q (.ref t) H') ∧ (readOf z = none → ∀ H', Same H H' → Q .non H')
abbrev n_law_meant : List Str := ["_law_line", "_law_names", "_law_some", "_law_word_here", "_law_numbers"]
abbrev p_law_meant : List Str := ["_law_line"]
theorem sc_law_meant : FnScope n_law_meant p_law_meant (defScope s_law_meant) := ⟨rfl, rfl, rfl, by decide +kernel, rfl, by decide +kernel, by decide +kernel⟩
theorem ok__law_meant {P : Program} {w : World} {K : PySem.W.Frag} {mg : Str → Option Value} {base : Heap} (T : Tx w K mg) : Fk P w K mg base 2 (He.ga K "_law_meant") p_law_meant (spMeant) := by
  have G_law_number_of := ok__law_number_of (P := P) (w := w) (base := base) T
  refine Fk.mk' T.f_law_meant sc_law_meant (fun _ _ _ _ _ _ us hl => match us, hl with | [_], _ => rfl) (by
  intro vs H Q E h
  repeat (first | (obtain ⟨h1, _⟩ := h; subst h1; rfl) | (obtain ⟨_, h⟩ := h))) (fun cdv A outer s H vs Q E hr h => ?_)
  have hu := hu_of hr
  have hu64 := hr.units
  refine ⟨_, (pss_cons (ps_set (i := 1) sc_law_meant.nd rfl (Or.inl rfl) (pe_lst (pa_cons pe_str (pa_cons pe_str (pa_cons pe_str (pa_cons pe_str (pa_cons pe_str (pa_cons pe_str (pa_cons pe_str (pa_cons pe_str pa_nil))))))))))
  (pss_cons (ps_set (i := 2) sc_law_meant.nd rfl (Or.inl rfl) (pe_split (pv 0) pe_str))
  (pss_cons (ps_if (PW.pt (pw_or (pt_cmpR (k_notin K) (k_ix K (pv 2) pe_int (fun _ _ => rfl)) (pv 1) (by rfl)) (pw_or1 (pt_cmpR (k_ne K hu64) (pe_op op_sub (pe_callB (k_len K) (by rfl) T.ulen (by decide +kernel) (pa_cons (pv 2) pa_nil)) pe_int) (k_ix K (pe_tup (pa_cons pe_int (pa_cons pe_int (pa_cons pe_int (pa_cons pe_int (pa_cons pe_int (pa_cons pe_int (pa_cons pe_int (pa_cons pe_int pa_nil))))))))) (k_bm K PySem.F.plainAttrs_list PySem.F.slot_list_index PySem.F.type_list_index mt_index (pv 1) (pa_cons (k_ix K (pv 2) pe_int (fun _ _ => rfl)) pa_nil)) (fun _ _ => rfl)) (nomark _))))) (pss_one (ps_ret pe_non)) pss_nil)
  (pss_cons (ps_setLc (i := 4) (own := [("_law_word_here", 3)]) (g := gName 3) rfl sc_law_meant.nd rfl rfl (sw_true rfl rfl rfl (by decide +kernel)) (k_pil K (pe_slice (k_sll K) (pv 2) (po_some pe_int) po_none)) (blkOk_by (own := [("_law_word_here", 3)]) (N := n_law_meant) (sc := defScope s_law_meant) (by decide +kernel)) (fun _ _ _ _ _ => pg_name (i := 3) sc_law_meant.nd rfl (Or.inl rfl)) (fun _ _ _ _ _ => pts_nil) (fun _ _ _ _ _ => (q_call G_law_number_of (hr.mono (by omega)) T.g_law_number_of passL (pa_cons (pv 3) pa_nil))))
  (pss_cons (ps_if (pt_cmpR (k_in K) pe_non (pv 4) (by rfl)) (pss_one (ps_ret pe_non)) pss_nil)
  (pss_one (ps_ret (pe_op (k_add K) (pe_tup (pa_cons (k_ix K (pv 2) pe_int (fun _ _ => rfl)) pa_nil)) (pe_callTy (k_tuple K) (by rfl) T.utuple (by decide +kernel) (pa_cons (pv 4) pa_nil)))))))))), ?_⟩
  try dsimp only [cxOf]
  obtain ⟨z, rfl, hl, q, e⟩ := h
  walk_at "z"
  walk_at "zt"
  rename_i N0 nN0 H0 s0 f0
  have fN : H0 N0 = some (.lst (names8.map V.str)) := f0
  clear f0
  walk_at "z"
  refine z_m1 ?_
  walk_at "z"
  refine ⟨⟨_, rfl⟩, ?_⟩
  walk_at "z"
  refine ⟨z, " ", rfl, rfl, by decide +kernel, sz1000 (by omega), ?_⟩
  have ew : Txt.split z " " = wordsOf z := rfl
  rw [ew]
  intro W nW
  generalize hH : upd H0 W _ = H1
  have s1 := new_same nW hH
  have f1 := new_at hH
  clear hH
  have hwl := words_len z
  have hw1 : ∀ w ∈ wordsOf z, w.length ≤ z.length := fun w hw => word_len hw
  obtain ⟨w, r, er⟩ := words_ne z
  unfold readOf at q e
  rw [er] at q e f1 hwl hw1
  have q : ∀ w' ns, (if shapesL.lookup w = some ((r.length : Nat) : Int) then (r.mapM numOf).map fun ns => (w, ns) else none) = some (w', ns) → ∀ H' t, Same H H' → H' t = some (.tup (.str w' :: ns.map V.int)) → Q (.ref t) H' := q
  have e : (if shapesL.lookup w = some ((r.length : Nat) : Int) then (r.mapM numOf).map fun ns => (w, ns) else none) = none → ∀ H', Same H H' → Q .non H' := e
  have fN1 := s1 _ _ fN
  have s01 := s0.trans s1
  walk_at "z"
  refine z_ixL (SqL.of f1) (atI_of (n := 0) rfl rfl) ?_
  walk_at "z"
  refine ⟨N0, names8.map V.str, rfl, .inl (SqL.of fN1), rfl, by decide +kernel, ?_⟩
  rw [inNames, show (if true = true then !decide (w ∈ names8) else decide (w ∈ names8)) = !decide (w ∈ names8) from rfl]
  walk_at "z"
  by_cases hz : w ∈ names8
  · rw [decide_eq_true hz]
    walk_at "z"
    obtain ⟨j, m, e1, e2, e3, e4⟩ := name_at hz
    refine z_lenL (SqL.of f1) ?_
    walk_at "z"
    walk_at "zt"
    rename_i T0 nT0 H2 s2 f2
    have fT : H2 T0 = some (.tup (many8.map V.int)) := f2
    clear f2
    walk_at "z"
    refine z_tyL (SqL.of (s2 _ _ fN1)) ?_
    walk_at "z"
    refine z_ixL (SqL.of (s2 _ _ f1)) (atI_of (n := 0) rfl rfl) ?_
    refine ⟨N0, names8.map V.str, .str w, j, .str w, rfl, rfl, SqL.of (s2 _ _ fN1), rfl, by decide +kernel, by rw [List.getElem?_map, e1]; rfl, beq_self_eq_true w, fun i z' hi hz' => ?_, ?_⟩
    · rw [List.getElem?_map] at hz'
      cases ei : names8[i]? with
      | none => rw [ei] at hz'; cases hz'
      | some y =>
        rw [ei] at hz'
        obtain rfl := Option.some.inj hz'
        have hne : y ≠ w := fun h => e2 i hi (by rw [ei, h])
        exact beq_eq_false_iff_ne.mpr hne
    walk_at "z"
    refine z_ixT (SqT.of fT) e3 ?_
    walk_at "z"
    have el : ((((w :: r).map V.str).length : Nat) : Int) - 1 = (r.length : Nat) := by simp
    rw [el]
    refine z_iteN (fun c1 => ?_) (fun c1 => ?_)
    · walk_at "z"
      exact e (by rw [e4, if_neg (fun h => c1 (Option.some.inj h).symm)]) _ (s01.trans s2)
    rw [if_pos (by rw [e4, c1])] at e
    have q : ∀ w' ns, ((r.mapM numOf).map fun ns => (w, ns)) = some (w', ns) → ∀ H' t, Same H H' → H' t = some (.tup (.str w' :: ns.map V.int)) → Q (.ref t) H' := fun w' ns h => q w' ns (by rw [if_pos (by rw [e4, c1])]; exact h)
    walk_at "z"
    refine z_slL (ys := r.map V.str) (SqL.of (s2 _ _ f1)) (cut_from _ 1) ?_
    walk_at "zn"
    rename_i P nP H3 s3 f3
    refine ⟨P, rfl, ⟨_, SqL.of f3⟩, fun L hL => ?_⟩
    have s03 := (s01.trans s2).trans s3
    have nPL : P ≠ L := ne_of_none f3 hL
    have hr1 : r.length ≤ z.length := by
      have := hwl
      simp only [List.length_cons] at this
      omega
    refine lc_list (K := K) (a := P) (xs := r.map V.str) (fun i H' => Same H3 H' ∧ H' P = some (.lst (r.map V.str)) ∧ H' L = some (.lst (((r.take i).map numOf).map optV))) ⟨Same.new hL, by rw [upd_ne nPL]; exact f3, upd_same⟩ (fun i H' _ h => SqL.of h.2.1) ?_ ?_
    · rintro i x H' hi ⟨t1, t2, t5⟩
      rw [List.getElem?_map] at hi
      cases ei : r[i]? with
      | none => rw [ei] at hi; cases hi
      | some y =>
        rw [ei] at hi
        obtain rfl := Option.some.inj hi
        have hyl := hw1 y (List.mem_cons_of_mem _ (List.mem_of_getElem? ei))
        walk_at "zw"
        walk_at "z"
        refine ⟨rfl, ?_⟩
        walk_at "z"
        refine ⟨y, rfl, by omega, ?_⟩
        refine ⟨_, t5, by rw [List.length_map, List.length_map, List.length_take]; exact szlt (by omega), t1.set hL, by rw [upd_ne nPL]; exact t2, by rw [upd_same, List.take_add_one, ei, List.map_append, List.map_append]; rfl⟩
    · rintro H' ⟨t1, t2, t5⟩
      rw [List.length_map, List.take_of_length_le (Nat.le_refl _)] at t5
      walk_at "z"
      refine ⟨L, _, rfl, .inl (SqL.of t5), rfl, flat_opt _, ?_⟩
      rw [inV_opt, show (if false = true then !decide (none ∈ r.map numOf) else decide (none ∈ r.map numOf)) = decide (none ∈ r.map numOf) from rfl]
      walk_at "z"
      refine z_ite (fun c2 => ?_) (fun c2 => ?_)
      · walk_at "z"
        exact e (by rw [opts_none c2]; rfl) _ (s03.trans t1)
      · obtain ⟨ns, en, ev⟩ := opts_some c2
        rw [ev] at t5
        have f1' := t1 _ _ (s3 _ _ (s2 _ _ f1))
        walk_at "z"
        refine z_ixL (SqL.of f1') (atI_of (n := 0) rfl rfl) ?_
        walk_at "z"
        walk_at "zt"
        rename_i T3 nT3 H5 s5 f5
        walk_at "z"
        refine z_tupL (SqL.of (s5 _ _ t5)) ?_
        walk_at "zn"
        rename_i T4 nT4 H6 s6 f6
        have hnl := (mapM_some en).1
        walk_at "z"
        refine z_catT (s6 _ _ f5) f6 (by simp [hnl]; exact sz1000 (by omega)) ?_
        intro T5 H7 s7 f7
        exact q w ns (by rw [en]; rfl) H7 T5 ((((s03.trans t1).trans s5).trans s6).trans s7) f7
  · rw [decide_eq_false hz]
    walk_at "z"
    exact e (names_not hz) _ s01
def cell (ns : List Int) (k : Nat) : Int := ns.getD k 0
def spCell (K : PySem.W.Frag) : Sp := fun vs H Q _ => ∃ (a : Addr) (ns : List Int) (k : Nat), vs = [.ref a, .int k] ∧ SqL K H a (ns.map V.int) ∧ Q (.int (cell ns k)) H
abbrev n_law_cell : List Str := ["_law_script", "_law_k"]
abbrev p_law_cell : List Str := ["_law_script", "_law_k"]
theorem sc_law_cell : FnScope n_law_cell p_law_cell (defScope s_law_cell) := ⟨rfl, rfl, rfl, by decide +kernel, rfl, by decide +kernel, by decide +kernel⟩
theorem ok__law_cell {P : Program} {w : World} {K : PySem.W.Frag} {mg : Str → Option Value} {base : Heap} (T : Tx w K mg) : Fk P w K mg base 1 (He.ga K "_law_cell") p_law_cell (spCell K) := by
  refine Fk.mk' T.f_law_cell sc_law_cell (fun _ _ _ _ _ _ us hl => match us, hl with | [_, _], _ => rfl) (by
  intro vs H Q E h
  repeat (first | (obtain ⟨h1, _⟩ := h; subst h1; rfl) | (obtain ⟨_, h⟩ := h))) (fun cdv A outer s H vs Q E hr h => ?_)
  have hu := hu_of hr
  have hu64 := hr.units
  refine ⟨_, (pss_cons (ps_if (pt_cmpR op_lt (pv 1) (pe_callB (k_len K) (by rfl) T.ulen (by decide +kernel) (pa_cons (pv 0) pa_nil)) (nomark _)) (pss_one (ps_ret (k_ix K (pv 0) (pv 1) (fun _ _ => rfl)))) pss_nil)
  (pss_one (ps_ret pe_int))), ?_⟩
  try dsimp only [cxOf]
  obtain ⟨a, ns, k, rfl, hs, q⟩ := h
  walk_at "z"
  refine z_lenL hs ?_
  walk_at "z"
  rw [List.length_map]
  refine z_ite (fun c => ?_) (fun c => ?_)
  · walk_at "z"
    refine z_ixL hs (atI_of (n := k) (v := .int (cell ns k)) ?_ rfl) q
    have hk : k < ns.length := by omega
    rw [List.getElem?_map, List.getElem?_eq_getElem hk]
    simp [cell, hk]
  · walk_at "z"
    have e : cell ns k = 0 := by simp [cell]; rw [List.getElem?_eq_none (by omega)]; rfl
    rw [e] at q
    exact q
def spTupleK (K : PySem.W.Frag) : Sp := fun vs H Q _ => ∃ (a : Addr) (ns : List Int), vs = [.ref a] ∧ SqL K H a (ns.map V.int) ∧ ∀ H' t, ∀ dd : Deed, Same H H' → H' t = some (.tup dd.vals) → isDeed dd.items = true → Q (.ref t) H'
abbrev n_law_tuple : List Str := ["_law_script", "_law_words", "_law_at", "_law_told", "_law_k", "_law_cell_here"]
abbrev p_law_tuple : List Str := ["_law_script"]
theorem sc_law_tuple : FnScope n_law_tuple p_law_tuple (defScope s_law_tuple) := ⟨rfl, rfl, rfl, by decide +kernel, rfl, by decide +kernel, by decide +kernel⟩
theorem ok__law_tuple {P : Program} {w : World} {K : PySem.W.Frag} {mg : Str → Option Value} {base : Heap} (T : Tx w K mg) : Fk P w K mg base 2 (He.ga K "_law_tuple") p_law_tuple (spTupleK K) := by
  have G_law_cell := ok__law_cell (P := P) (w := w) (base := base) T
  refine Fk.mk' T.f_law_tuple sc_law_tuple (fun _ _ _ _ _ _ us hl => match us, hl with | [_], _ => rfl) (by
  intro vs H Q E h
  repeat (first | (obtain ⟨h1, _⟩ := h; subst h1; rfl) | (obtain ⟨_, h⟩ := h))) (fun cdv A outer s H vs Q E hr h => ?_)
  have hu := hu_of hr
  have hu64 := hr.units
  refine ⟨_, (pss_cons (ps_set (i := 1) sc_law_tuple.nd rfl (Or.inl rfl) (pe_lst (pa_cons pe_str (pa_cons pe_str (pa_cons pe_str (pa_cons pe_str (pa_cons pe_str (pa_cons pe_str (pa_cons pe_str (pa_cons pe_str pa_nil))))))))))
  (pss_cons (ps_set (i := 2) sc_law_tuple.nd rfl (Or.inl rfl) (pe_op op_mod (q_call G_law_cell (hr.mono (by omega)) T.g_law_cell passX (pa_cons (pv 0) (pa_cons pe_int pa_nil))) pe_int))
  (pss_cons (ps_set (i := 3) sc_law_tuple.nd rfl (Or.inl rfl) (pe_lst (pa_cons (k_ix K (pv 1) (pv 2) (fun _ _ => rfl)) pa_nil)))
  (pss_cons (ps_for (passes_of rfl) rfl (pi_range1 (by rfl) T.urange (pa_cons (k_ix K (pe_tup (pa_cons pe_int (pa_cons pe_int (pa_cons pe_int (pa_cons pe_int (pa_cons pe_int (pa_cons pe_int (pa_cons pe_int (pa_cons pe_int pa_nil))))))))) (pv 2) (fun _ _ => rfl)) pa_nil)) (pg_name (i := 4) sc_law_tuple.nd rfl (Or.inl rfl)) (pss_cons (ps_set (i := 5) sc_law_tuple.nd rfl (Or.inl rfl) (q_call G_law_cell (hr.mono (by omega)) T.g_law_cell passX (pa_cons (pv 0) (pa_cons (pe_op (k_add K) pe_int (pv 4)) pa_nil))))
  (pss_one (ps_if (pt_cmpR (k_eq K hu64) (pe_op op_mod (pv 5) pe_int) pe_int (nomark _)) (pss_one (ps_expr (k_bm K PySem.F.plainAttrs_list PySem.F.slot_list_append PySem.F.type_list_append mt_append (pv 3) (pa_cons (pe_op op_mod (pe_op op_fdivW (pv 5) pe_int) (pe_op op_pow pe_int pe_int)) pa_nil)))) (pss_one (ps_expr (k_bm K PySem.F.plainAttrs_list PySem.F.slot_list_append PySem.F.type_list_append mt_append (pv 3) (pa_cons (pe_op op_mod (pe_op op_fdivW (pv 5) pe_int) pe_int) pa_nil))))))))
  (pss_one (ps_ret (pe_callTy (k_tuple K) (by rfl) T.utuple (by decide +kernel) (pa_cons (pv 3) pa_nil)))))))), ?_⟩
  try dsimp only [cxOf]
  obtain ⟨a, ns, rfl, hs, q⟩ := h
  walk_at "z"
  walk_at "zt"
  rename_i W nW H1 s1 f1
  walk_at "z"
  refine ⟨a, ns, 0, rfl, s1.seq hs, ?_⟩
  walk_at "z"
  refine z_I (by decide) ?_
  walk_at "z"
  have g0 := Int.emod_nonneg (cell ns 0) (show (8 : Int) ≠ 0 by decide)
  have g1 := Int.emod_lt_of_pos (cell ns 0) (show (0 : Int) < 8 by decide)
  generalize cell ns 0 % 8 = at8 at g0 g1 ⊢
  obtain ⟨w, m, e1, e2, e3, hm, hw⟩ := name8 g0 g1
  refine z_ixL (SqL.of f1) e1 ?_
  walk_at "z"
  walk_at "zt"
  rename_i L nL H2 s2 f2
  walk_at "z"
  walk_at "zt"
  rename_i T nT H3 s3 f3
  walk_at "z"
  refine z_ixT (SqT.of f3) e2 ?_
  refine ⟨_, rfl, by omega, by omega, ?_⟩
  rw [Int.toNat_natCast]
  have s13 := (s1.trans s2).trans s3
  have nL0 : H L = none := s1.free nL
  have nLa : ∀ xs, SqL K H a xs → ∀ H', Same H H' → SqL K H' a xs := fun xs h H' s => s.seq h
  refine for_range (fun i σ H' => Same H H' ∧ (∃ ms : List Int, H' L = some (.lst (V.str w :: ms.map V.int)) ∧ ms.length = i ∧ ∀ x ∈ ms, 0 ≤ x ∧ x ≤ 999999999999999999) ∧ ∃ k c, σ = [some (.ref a), some (.ref W), some (.int at8), some (.ref L), k, c])
    ⟨s13, ⟨[], s3 _ _ f2, rfl, by simp⟩, none, none, rfl⟩ ?_ ?_
  · rintro i σ H' hi ⟨t1, ⟨ms, t2, t3, t4⟩, k, c, rfl⟩
    walk_at "z"
    refine ⟨a, ns, 1 + i, by rw [show (1 : Int) + (0 + (i : Nat)) = ((1 + i : Nat) : Int) by omega]; rfl, t1.seq hs, ?_⟩
    walk_at "z"
    refine z_I (by decide) ?_
    walk_at "z"
    have push : ∀ x : Int, 0 ≤ x → x ≤ 999999999999999999 → ∃ ms' : List Int, upd H' L (.lst (V.str w :: ms.map V.int ++ [V.int x])) L = some (.lst (V.str w :: ms'.map V.int)) ∧ ms'.length = i + 1 ∧ ∀ y ∈ ms', 0 ≤ y ∧ y ≤ 999999999999999999 := fun x h0 h1 =>
      ⟨ms ++ [x], by rw [upd_same, List.map_append]; rfl, by simp [t3], fun y hy => by
        rcases List.mem_append.mp hy with hy | hy
        · exact t4 y hy
        · simp at hy; subst hy; exact ⟨h0, h1⟩⟩
    refine z_ite (fun c1 => ?_) (fun c1 => ?_)
    · walk_at "z"
      refine z_tyL (SqL.of t2) ?_
      walk_at "z"
      refine z_I (divW (by decide) (by decide)) ?_
      walk_at "z"
      refine z_I ⟨by decide, by decide, by decide⟩ ?_
      walk_at "z"
      refine z_I (by decide) ?_
      walk_at "z"
      refine z_app t2 (by simp; exact szlt (by omega)) ?_
      have b0 := Int.emod_nonneg (cell ns (1 + i) / 5) (show (10 : Int) ^ (18 : Int).toNat ≠ 0 by decide)
      have b1 := Int.emod_lt_of_pos (cell ns (1 + i) / 5) (show (0 : Int) < (10 : Int) ^ (18 : Int).toNat by decide)
      have e10 : (10 : Int) ^ (18 : Int).toNat = 1000000000000000000 := by decide
      rw [e10] at b0 b1 ⊢
      exact ⟨t1.set nL0, push _ b0 (by omega), _, _, rfl⟩
    · walk_at "z"
      refine z_tyL (SqL.of t2) ?_
      walk_at "z"
      refine z_I (divW (by decide) (by decide)) ?_
      walk_at "z"
      refine z_I (by decide) ?_
      walk_at "z"
      refine z_app t2 (by simp; exact szlt (by omega)) ?_
      have b0 := Int.emod_nonneg (cell ns (1 + i) / 5) (show (12 : Int) ≠ 0 by decide)
      have b1 := Int.emod_lt_of_pos (cell ns (1 + i) / 5) (show (0 : Int) < 12 by decide)
      exact ⟨t1.set nL0, push _ b0 (by omega), _, _, rfl⟩
  · rintro σ H' ⟨t1, ⟨ms, t2, t3, t4⟩, k, c, rfl⟩
    walk_at "z"
    refine z_tupL (SqL.of t2) ?_
    walk_at "zn"
    rename_i T2 nT2 H4 s4 f4
    have hd : isDeed (.str w :: ms.map PyData.int) = true := by
      show (decide (shapesL.lookup w = some ((ms.map PyData.int).length : Int)) && (ms.map PyData.int).all numOk) = true
      rw [List.length_map, t3, e3, decide_eq_true rfl, Bool.true_and, List.all_eq_true]
      intro d hd
      obtain ⟨x, hx, rfl⟩ := List.mem_map.mp hd
      exact decide_eq_true (t4 x hx)
    obtain ⟨dd, e⟩ := deed_of hd
    have ev : dd.vals = .str w :: ms.map V.int := by
      have e' := e
      unfold Deed.items at e'
      injection e' with e5 e6
      injection e5 with e5
      have e7 : dd.args = ms := by
        have := congrArg (List.map fun d : PyData => match d with | .int i => i | _ => 0) e6
        rw [List.map_map, List.map_map] at this
        have i1 : ∀ l : List Int, l.map ((fun d : PyData => match d with | .int i => i | _ => 0) ∘ PyData.int) = l := fun l => by
          induction l with
          | nil => rfl
          | cons x l ih => rw [List.map_cons, ih]; rfl
        rw [i1, i1] at this
        exact this.symm
      unfold Deed.vals
      rw [e7, ← e5]
    refine q H4 T2 dd (t1.trans s4) (by rw [ev]; exact f4) (by rw [← e]; exact hd)
def spNumIn (B : Addr) : Sp := fun vs H Q E => ∃ z : Str, vs = [.str z] ∧ z.length ≤ 100000 ∧ (∀ x, numOf z = some x → Q (.int x) H) ∧ (numOf z = none → E (.ref B) none H)
abbrev nnumber_in : List Str := ["word", "sign"]
abbrev pnumber_in : List Str := ["word"]
theorem scnumber_in : FnScope nnumber_in pnumber_in (defScope snumber_in) := ⟨rfl, rfl, rfl, by decide +kernel, rfl, by decide +kernel, by decide +kernel⟩
theorem ok_number_in {P : Program} {w : World} {K : PySem.W.Frag} {mg : Str → Option Value} {base : Heap} (T : Tx w K mg) : Fk P w K mg base 1 (He.ga K "number_in") pnumber_in (spNumIn (He.ga K "BadLine")) := by
  refine Fk.mk' T.fnumber_in scnumber_in (fun _ _ _ _ _ _ us hl => match us, hl with | [_], _ => rfl) (by
  intro vs H Q E h
  repeat (first | (obtain ⟨h1, _⟩ := h; subst h1; rfl) | (obtain ⟨_, h⟩ := h))) (fun cdv A outer s H vs Q E hr h => ?_)
  have hu := hu_of hr
  have hu64 := hr.units
  refine ⟨_, (pss_cons (ps_if (PW.pt (pw_or (pt_cmpR (k_eq K hu64) (pv 0) pe_str (nomark _)) (pw_or (pt_cmpR op_gt (pe_callB (k_len K) (by rfl) T.ulen (by decide +kernel) (pa_cons (pv 0) pa_nil)) pe_int (nomark _)) (pw_or1 (PW.pt (pw_and (pt_cmpR (k_eq K hu64) (k_ix K (pv 0) pe_int (fun _ _ => rfl)) pe_str (nomark _)) (pw_and1 (pt_cmpR op_gt (pe_callB (k_len K) (by rfl) T.ulen (by decide +kernel) (pa_cons (pv 0) pa_nil)) pe_int (nomark _))))))))) (pss_one (ps_raise rfl takesX (pmk_own PySem.F.excBase_ValueError T.eBadLine.1 T.gBadLine T.eBadLine.2.1 (raises_own T.eBadLine.2.2.1 T.eBadLine.2.2.2) (by rfl)))) pss_nil)
  (pss_cons (ps_for (passes_of rfl) rfl (pi_str (pv 0)) (pg_name (i := 1) scnumber_in.nd rfl (Or.inl rfl)) (pss_one (ps_if (pt_cmpR op_notIn_sign (pv 1) (q_txt T.zFIGURES) rfl) (pss_one (ps_raise rfl takesX (pmk_own PySem.F.excBase_ValueError T.eBadLine.1 T.gBadLine T.eBadLine.2.1 (raises_own T.eBadLine.2.2.1 T.eBadLine.2.2.2) (by rfl)))) pss_nil)))
  (pss_one (ps_ret (pe_callTy call_intS (by rfl) T.uint (by decide +kernel) (pa_cons (pv 0) pa_nil)))))), ?_⟩
  try dsimp only [cxOf]
  obtain ⟨z, rfl, hl, q, e⟩ := h
  have hz : z.length = (TL.tl z).length := TL.len_tl z
  walk_at "y"
  refine z_joinIf (R := fun σ' H' => σ' = [some (.str z), none] ∧ H' = H ∧ ¬ (TL.tl z = [] ∨ 18 < (TL.tl z).length ∨ ((TL.tl z).head? = some 48 ∧ 1 < (TL.tl z).length))) (fun D' k rt => ?_) ?_
  · walk_at "z"
    refine z_ite (fun c => ?_) (fun c => ?_)
    · walk_at "z"
      refine e ?_
      unfold numOf numL?
      rw [if_pos (.inl (by rw [c]; decide +kernel))]
    walk_at "z"
    refine z_lenS (sz1000 hl) ?_
    walk_at "z"
    refine z_ite (fun c2 => ?_) (fun c2 => ?_)
    · walk_at "z"
      refine e ?_
      unfold numOf numL?
      rw [if_pos (.inr (.inl (by omega)))]
    walk_at "z"
    have hne : TL.tl z ≠ [] := fun h => c (TL.ext_tl (by rw [h]; decide +kernel))
    obtain ⟨c0, r, er⟩ : ∃ c0 r, TL.tl z = c0 :: r := by
      cases h : TL.tl z with
      | nil => exact absurd h hne
      | cons a b => exact ⟨a, b, rfl⟩
    refine .inr (.inr ⟨z, 0, c0, rfl, rfl, sz1000 hl, ?_, ?_⟩)
    · have : atI (TL.tl z) ((0 : Nat) : Int) = some c0 := atI_nat (by rw [er]; rfl)
      exact this
    walk_at "z"
    refine z_ite (fun c3 => ?_) (fun c3 => ?_)
    · have e48 : c0 = 48 := by
        have := congrArg TL.tl c3
        have e0 : TL.tl ("0" : Str) = [48] := by decide +kernel
        rw [e0] at this
        have this : [c0] = [48] := this
        simpa using this
      walk_at "z"
      refine z_lenS (sz1000 hl) ?_
      walk_at "z"
      refine z_ite (fun c4 => ?_) (fun c4 => ?_)
      · walk_at "z"
        refine e ?_
        unfold numOf numL?
        rw [if_pos (.inr (.inr ⟨by rw [er, e48]; rfl, by omega⟩))]
      · walk_at "z"
        refine k _ _ ⟨rfl, rfl, ?_⟩
        rintro (h | h | h)
        · exact hne h
        · omega
        · omega
    · walk_at "z"
      refine k _ _ ⟨rfl, rfl, ?_⟩
      rintro (h | h | h)
      · exact hne h
      · omega
      · refine c3 (TL.ext_tl ?_)
        have h1 := h.1
        rw [er] at h1
        have e0 : TL.tl ("0" : Str) = [48] := by decide +kernel
        rw [e0, Option.some.inj h1]
  rintro σ' H' ⟨rfl, rfl, hc⟩
  walk_at "z"
  refine z_iStr ?_
  walk_at "z"
  refine ⟨z, rfl, ?_⟩
  have hsz : z.cps.size = (TL.tl z).length := by simp [TL.tl]
  refine ⟨fun i m σ H2 => i + m = z.cps.size ∧ H2 = H' ∧ (∀ (j : Nat) (c : Nat), j < i → (TL.tl z)[j]? = some c → 48 ≤ c ∧ c ≤ 57) ∧ ∃ x, σ = [some (.str z), x], ⟨z.cps.size, by omega, rfl, (fun j c hj => absurd hj (Nat.not_lt_zero _)), _, rfl⟩, ?_⟩
  rintro i m σ H2 ⟨hm, rfl, hd, x, rfl⟩
  by_cases hi : i < z.cps.size
  · refine .inr ⟨hi, fun σ' H' => H' = H2 ∧ (∀ (j : Nat) (c : Nat), j < i + 1 → (TL.tl z)[j]? = some c → 48 ≤ c ∧ c ≤ 57) ∧ ∃ x, σ' = [some (.str z), x], ?_, ?_⟩
    · rintro σ' H' ⟨rfl, h1, h2⟩
      exact ⟨m - 1, by omega, by omega, rfl, h1, h2⟩
    · rintro y H' ⟨rfl, c, ec, rfl⟩
      have ec' : (TL.tl z)[i]? = some c := by rw [← ec]; simp [TL.tl]
      walk_at "z"
      refine ⟨c, _, rfl, rfl, ?_⟩
      walk_at "z"
      refine z_iteN (fun c1 => ?_) (fun c1 => ?_)
      · walk_at "z"
        refine e ?_
        unfold numOf numL?
        rw [if_neg hc, if_neg (fun h => ?_)]
        rw [List.all_eq_true] at h
        exact c1 ((figs_mem c).mpr (of_decide_eq_true (h c (List.mem_of_getElem? ec'))))
      · walk_at "z"
        refine ⟨rfl, fun j c' hj ej => ?_, _, rfl⟩
        by_cases hji : j < i
        · exact hd j c' hji ej
        · obtain rfl : j = i := by omega
          rw [ec'] at ej
          obtain rfl := Option.some.inj ej
          exact (figs_mem c).mp c1
  · refine .inl ⟨Nat.le_of_not_lt hi, ?_⟩
    walk_at "z"
    have hall : NumText.AllDigits (TL.tl z) := fun c hc => by
      obtain ⟨j, hj⟩ := List.getElem?_of_mem hc
      exact hd j c (by have := (List.getElem?_eq_some_iff.mp hj).1; omega) hj
    have hne : TL.tl z ≠ [] := fun h => hc (.inl h)
    refine ⟨z, _, rfl, PySem.intText_digits hall hne (by omega), by omega, ?_⟩
    refine q _ ?_
    unfold numOf numL?
    rw [if_neg hc, if_pos (by
      rw [List.all_eq_true]
      exact fun c hc => decide_eq_true (hall c hc))]
def spRead (B : Addr) : Sp := fun vs H Q E => ∃ z : Str, vs = [.str z] ∧ z.length ≤ 50000 ∧ (∀ w ns, readOf z = some (w, ns) → ∀ H' t, Same H H' → H' t = some (.tup (.str w :: ns.map V.int)) → Q (.ref t) H') ∧ (readOf z = none → ∀ H', Same H H' → E (.ref B) none H')
abbrev nread : List Str := ["line", "words", "word"]
abbrev pread : List Str := ["line"]
theorem scread : FnScope nread pread (defScope sread) := ⟨rfl, rfl, rfl, by decide +kernel, rfl, by decide +kernel, by decide +kernel⟩
theorem ok_read {P : Program} {w : World} {K : PySem.W.Frag} {mg : Str → Option Value} {base : Heap} (T : Tx w K mg) : Fk P w K mg base 2 (He.ga K "read") pread (spRead (He.ga K "BadLine")) := by
  have Gnumber_in := ok_number_in (P := P) (w := w) (base := base) T
  refine Fk.mk' T.fread scread (fun _ _ _ _ _ _ us hl => match us, hl with | [_], _ => rfl) (by
  intro vs H Q E h
  repeat (first | (obtain ⟨h1, _⟩ := h; subst h1; rfl) | (obtain ⟨_, h⟩ := h))) (fun cdv A outer s H vs Q E hr h => ?_)
  have hu := hu_of hr
  have hu64 := hr.units
  refine ⟨_, (pss_cons (ps_set (i := 1) scread.nd rfl (Or.inl rfl) (pe_split (pv 0) pe_str))
  (pss_cons (ps_if (pt_cmpR (k_ne K hu64) (pe_kget1 K w (pe_glob (v := .ref (He.ga K "SHAPES")) (by rfl) T.gSHAPES rfl) (k_ix K (pv 1) pe_int (fun _ _ => rfl)) ⟨rfl, rfl, rfl, rfl⟩) (pe_op op_sub (pe_callB (k_len K) (by rfl) T.ulen (by decide +kernel) (pa_cons (pv 1) pa_nil)) pe_int) (nomark _)) (pss_one (ps_raise rfl takesX (pmk_own PySem.F.excBase_ValueError T.eBadLine.1 T.gBadLine T.eBadLine.2.1 (raises_own T.eBadLine.2.2.1 T.eBadLine.2.2.2) (by rfl)))) pss_nil)
  (pss_one (ps_ret (pe_op (k_add K) (pe_tup (pa_cons (k_ix K (pv 1) pe_int (fun _ _ => rfl)) pa_nil)) (pe_callTy (k_tuple K) (by rfl) T.utuple (by decide +kernel) (pa_cons (pe_lcE (own := [("word", 2)]) (g := gName 2) rfl rfl takesX rfl scread.nd (k_pil K (pe_slice (k_sll K) (pv 1) (po_some pe_int) po_none)) (blkOk_by (own := [("word", 2)]) (N := nread) (sc := defScope sread) (by decide +kernel)) (fun _ _ _ _ _ => pg_name (i := 2) scread.nd rfl (Or.inl rfl)) (fun _ _ _ _ _ => pts_nil) (fun _ _ _ _ _ => (q_call Gnumber_in (hr.mono (by omega)) T.gnumber_in passE (pa_cons (pv 2) pa_nil)))) pa_nil))))))), ?_⟩
  try dsimp only [cxOf]
  obtain ⟨z, rfl, hl, q, e⟩ := h
  walk_at "z"
  refine z_m1 ?_
  walk_at "z"
  refine ⟨⟨_, rfl⟩, ?_⟩
  walk_at "z"
  refine ⟨z, " ", rfl, rfl, by decide +kernel, sz1000 (by omega), ?_⟩
  have ew : Txt.split z " " = wordsOf z := rfl
  rw [ew]
  intro W nW
  generalize hH : upd H W _ = H1
  have s1 := new_same nW hH
  have f1 := new_at hH
  clear hH
  have hwl := words_len z
  have hw1 : ∀ w ∈ wordsOf z, w.length ≤ z.length := fun w hw => word_len hw
  obtain ⟨w, r, er⟩ := words_ne z
  unfold readOf at q e
  rw [er] at q e f1 hwl hw1
  walk_at "z"
  refine ⟨_, _, rfl, T.tSHAPES, ?_⟩
  walk_at "z"
  refine z_ixL (SqL.of f1) (atI_of (n := 0) rfl rfl) ?_
  refine ⟨w, rfl, ?_⟩
  walk_at "z"
  refine z_lenL (SqL.of f1) ?_
  walk_at "z"
  have el : ((((w :: r).map V.str).length : Nat) : Int) - 1 = (r.length : Nat) := by simp
  rw [el]
  have fail : shapesL.lookup w ≠ some ((r.length : Nat) : Int) → E (.ref (He.ga K "BadLine")) none H1 := fun hn => e (if_neg hn) H1 s1
  have pass : shapesL.lookup w = some ((r.length : Nat) : Int) → (∀ ns, r.mapM numOf = some ns → ∀ H' t, Same H H' → H' t = some (.tup (.str w :: ns.map V.int)) → Q (.ref t) H') ∧ (r.mapM numOf = none → ∀ H', Same H H' → E (.ref (He.ga K "BadLine")) none H') := fun hs => by
    refine ⟨fun ns en => ?_, fun en => ?_⟩
    · exact q w ns (by show (if shapesL.lookup w = some ((r.length : Nat) : Int) then (r.mapM numOf).map fun ns => (w, ns) else none) = _; rw [if_pos hs, en]; rfl)
    · exact e (by show (if shapesL.lookup w = some ((r.length : Nat) : Int) then (r.mapM numOf).map fun ns => (w, ns) else none) = _; rw [if_pos hs, en]; rfl)
  clear q e
  cases hs : shapesT.lookup w with
  | none =>
    have e1 : tabV shapesT w = .non := by unfold tabV; rw [hs]
    rw [e1]
    refine .inl ⟨rfl, ?_⟩
    walk_at "z"
    refine z_yesN (by intro z; cases z) ?_
    walk_at "z"
    exact fail (by rw [hs]; intro z; cases z)
  | some m =>
    have e1 : tabV shapesT w = .int m := by unfold tabV; rw [hs]
    rw [e1]
    walk_at "z"
    refine z_iteN (fun c1 => ?_) (fun c1 => ?_)
    · walk_at "z"
      exact fail (by rw [hs]; exact fun z => c1 (Option.some.inj z))
    obtain ⟨q, e⟩ := pass (by rw [hs, c1])
    walk_at "z"
    refine z_ixL (SqL.of f1) (atI_of (n := 0) rfl rfl) ?_
    walk_at "z"
    walk_at "zt"
    rename_i T0 nT0 H2 s2 f2
    walk_at "z"
    refine z_slL (ys := r.map V.str) (SqL.of (s2 _ _ f1)) (cut_from _ 1) ?_
    walk_at "zn"
    rename_i P nP H3 s3 f3
    refine ⟨P, rfl, ⟨_, SqL.of f3⟩, fun L hL => ?_⟩
    have s03 := (s1.trans s2).trans s3
    have hL0 : H L = none := s03.free hL
    have nPL : P ≠ L := ne_of_none f3 hL
    have hr1 : r.length ≤ z.length := by
      have := hwl
      simp only [List.length_cons] at this
      omega
    refine lc_list (K := K) (a := P) (xs := r.map V.str) (fun i H' => Same H3 H' ∧ H' P = some (.lst (r.map V.str)) ∧ ∃ ns, (r.take i).mapM numOf = some ns ∧ ns.length = (r.take i).length ∧ H' L = some (.lst (ns.map V.int))) ⟨Same.new hL, by rw [upd_ne nPL]; exact f3, [], by simp, by simp, upd_same⟩ (fun i H' _ h => SqL.of h.2.1) ?_ ?_
    · rintro i x H' hi ⟨t1, t2, ns, t3, t4, t5⟩
      rw [List.getElem?_map] at hi
      cases ei : r[i]? with
      | none => rw [ei] at hi; cases hi
      | some y =>
        rw [ei] at hi
        obtain rfl := Option.some.inj hi
        have hyl := hw1 y (List.mem_cons_of_mem _ (List.mem_of_getElem? ei))
        walk_at "zw"
        walk_at "z"
        refine ⟨rfl, ?_⟩
        walk_at "z"
        refine ⟨y, rfl, by omega, fun n hn => ?_, fun hn => ?_⟩
        · refine ⟨_, t5, by rw [List.length_map, t4, List.length_take]; exact szlt (by omega), t1.set hL, by rw [upd_ne nPL]; exact t2, ns ++ [n], ?_, ?_, by rw [upd_same, List.map_append]; rfl⟩
          · rw [List.take_add_one, ei, List.mapM_append, t3]
            simp [hn]
          · rw [List.take_add_one, ei]; simp [t4]
        · exact e (mapM_none (List.mem_of_getElem? ei) hn) _ (s03.trans t1)
    · rintro H' ⟨t1, t2, ns, t3, t4, t5⟩
      rw [List.length_map, List.take_of_length_le (Nat.le_refl _)] at t3 t4
      walk_at "z"
      refine z_tupL (SqL.of t5) ?_
      walk_at "zn"
      rename_i T1 nT1 H4 s4 f4
      walk_at "z"
      refine z_catT (s4 _ _ (t1 _ _ (s3 _ _ f2))) f4 (by simp [t4]; exact sz1000 (by omega)) ?_
      intro T2 H5 s5 f5
      exact q ns t3 H5 T2 (((s03.trans t1).trans s4).trans s5) f5
def isWhole : PyData → Bool
  | .int _ => true
  | _ => false
def spWhole : Sp := fun vs H Q _ => ∃ x d, vs = [x] ∧ Dv H x d ∧ Q (.bl (isWhole d)) H
abbrev n_law_whole : List Str := ["_law_found"]
abbrev p_law_whole : List Str := ["_law_found"]
theorem sc_law_whole : FnScope n_law_whole p_law_whole (defScope s_law_whole) := ⟨rfl, rfl, rfl, by decide +kernel, rfl, by decide +kernel, by decide +kernel⟩
theorem ok__law_whole {P : Program} {w : World} {K : PySem.W.Frag} {mg : Str → Option Value} {base : Heap} (T : Tx w K mg) : Fk P w K mg base 1 (He.ga K "_law_whole") p_law_whole (spWhole) := by
  refine Fk.mk' T.f_law_whole sc_law_whole (fun _ _ _ _ _ _ us hl => match us, hl with | [_], _ => rfl) (by
  intro vs H Q E h
  repeat (first | (obtain ⟨h1, _⟩ := h; subst h1; rfl) | (obtain ⟨_, h⟩ := h))) (fun cdv A outer s H vs Q E hr h => ?_)
  have hu := hu_of hr
  have hu64 := hr.units
  refine ⟨_, (pss_one (ps_ret (pe_and (pe_callB (k_isi K) (by rfl) T.uisinstance (by decide +kernel) (pa_cons (pv 0) (pa_cons (pe_bltn (v := .ty "int") (by rfl) T.uint (by decide +kernel) rfl) pa_nil))) (pe_one (pe_not (pe_callB (k_isi K) (by rfl) T.uisinstance (by decide +kernel) (pa_cons (pv 0) (pa_cons (pe_bltn (v := .ty "bool") (by rfl) T.ubool (by decide +kernel) rfl) pa_nil)))))))), ?_⟩
  try dsimp only [cxOf]
  obtain ⟨x, d, rfl, hd, q⟩ := h
  walk_at "z"
  cases hd with
  | int i =>
    refine z_isI true (by decide +kernel) ?_
    walk_at "z"
    refine z_isI false (by decide +kernel) ?_
    walk_at "z"
    exact q
  | non => exact z_isNn false (by decide +kernel) (by walk_at "z"; exact q)
  | bl b => exact z_isBl true (by decide +kernel) (by walk_at "z"; exact z_isBl true (by decide +kernel) (by walk_at "z"; exact q))
  | str x => exact z_isS false (by decide +kernel) (by walk_at "z"; exact q)
  | lst h1 h2 => exact z_isL false h1 (by decide +kernel) (by walk_at "z"; exact q)
  | tup h1 h2 => exact z_isT false h1 (by decide +kernel) (by walk_at "z"; exact q)
/-- the same data on both sides: True comes out -/
def spLike (n : Nat) : Sp := fun vs H Q _ => ∃ x y d, vs = [x, y] ∧ Dv H x d ∧ Dv H y d ∧ dpt d < n ∧ ∀ H', Same H H' → Q (.bl true) H'
abbrev n_law_like : List Str := ["_law_found", "_law_due", "_law_one", "_law_other"]
abbrev p_law_like : List Str := ["_law_found", "_law_due"]
theorem sc_law_like : FnScope n_law_like p_law_like (defScope s_law_like) := ⟨rfl, rfl, rfl, by decide +kernel, rfl, by decide +kernel, by decide +kernel⟩
theorem ok__law_like {P : Program} {w : World} {K : PySem.W.Frag} {mg : Str → Option Value} {base : Heap} (T : Tx w K mg) : ∀ n : Nat, Fk P w K mg base (1 + n) (He.ga K "_law_like") p_law_like (spLike n)
  | 0 => (Fk.no T.f_law_like (fun _ _ _ _ _ _ us hl => match us, hl with | [_, _], _ => rfl) (fun vs H Q E ⟨x, y, d, _, _, _, h, _⟩ => absurd h (Nat.not_lt_zero _))).up (by omega)
  | n + 1 => by
      have GR := ok__law_like (P := P) (w := w) (base := base) T n
      have G_law_whole := ok__law_whole (P := P) (w := w) (base := base) T
      refine Fk.mk' (k := 1 + n) T.f_law_like sc_law_like (fun _ _ _ _ _ _ us hl => match us, hl with | [_, _], _ => rfl) (by
        intro vs H Q E h
        repeat (first | (obtain ⟨h1, _⟩ := h; subst h1; rfl) | (obtain ⟨_, h⟩ := h))) (fun cdv A outer s H vs Q E hr h => ?_)
      have hu := hu_of hr
      have hu64 := hr.units
      refine ⟨_, (pss_cons (ps_if (pt_cmpR op_isX (pv 1) pe_non (nomark _)) (pss_one (ps_ret (pe_cmpR op_isX (pv 0) pe_non (nomark _)))) pss_nil)
      (pss_cons (ps_if (pt_cmpR op_isX (pv 1) pe_bl (nomark _)) (pss_one (ps_ret (pe_cmpR op_isX (pv 0) pe_bl (nomark _)))) pss_nil)
      (pss_cons (ps_if (pt_cmpR op_isX (pv 1) pe_bl (nomark _)) (pss_one (ps_ret (pe_cmpR op_isX (pv 0) pe_bl (nomark _)))) pss_nil)
      (pss_cons (ps_if (pt_val (pe_callB (k_isi K) (by rfl) T.uisinstance (by decide +kernel) (pa_cons (pv 1) (pa_cons (pe_bltn (v := .ty "int") (by rfl) T.uint (by decide +kernel) rfl) pa_nil)))) (pss_one (ps_ret (pe_and (q_call G_law_whole (hr.mono (by omega)) T.g_law_whole passX (pa_cons (pv 0) pa_nil)) (pe_one (pe_cmpR (k_eq K hu64) (pv 0) (pv 1) (nomark _)))))) pss_nil)
      (pss_cons (ps_if (pt_val (pe_callB (k_isi K) (by rfl) T.uisinstance (by decide +kernel) (pa_cons (pv 1) (pa_cons (pe_bltn (v := .ty "str") (by rfl) T.ustr (by decide +kernel) rfl) pa_nil)))) (pss_one (ps_ret (pe_and (pe_callB (k_isi K) (by rfl) T.uisinstance (by decide +kernel) (pa_cons (pv 0) (pa_cons (pe_bltn (v := .ty "str") (by rfl) T.ustr (by decide +kernel) rfl) pa_nil))) (pe_one (pe_cmpR (k_eq K hu64) (pv 0) (pv 1) (nomark _)))))) pss_nil)
      (pss_cons (ps_if (PW.pt (pw_and (pt_val (pe_callB (k_isi K) (by rfl) T.uisinstance (by decide +kernel) (pa_cons (pv 1) (pa_cons (pe_bltn (v := .ty "tuple") (by rfl) T.utuple (by decide +kernel) rfl) pa_nil)))) (pw_and1 (pt_not (pt_val (pe_callB (k_isi K) (by rfl) T.uisinstance (by decide +kernel) (pa_cons (pv 0) (pa_cons (pe_bltn (v := .ty "tuple") (by rfl) T.utuple (by decide +kernel) rfl) pa_nil)))))))) (pss_one (ps_ret pe_bl)) pss_nil)
      (pss_cons (ps_if (PW.pt (pw_and (pt_val (pe_callB (k_isi K) (by rfl) T.uisinstance (by decide +kernel) (pa_cons (pv 1) (pa_cons (pe_bltn (v := .ty "list") (by rfl) T.ulist (by decide +kernel) rfl) pa_nil)))) (pw_and1 (pt_not (pt_val (pe_callB (k_isi K) (by rfl) T.uisinstance (by decide +kernel) (pa_cons (pv 0) (pa_cons (pe_bltn (v := .ty "list") (by rfl) T.ulist (by decide +kernel) rfl) pa_nil)))))))) (pss_one (ps_ret pe_bl)) pss_nil)
      (pss_cons (ps_if (pt_cmpR (k_ne K hu64) (pe_callB (k_len K) (by rfl) T.ulen (by decide +kernel) (pa_cons (pv 0) pa_nil)) (pe_callB (k_len K) (by rfl) T.ulen (by decide +kernel) (pa_cons (pv 1) pa_nil)) (nomark _)) (pss_one (ps_ret pe_bl)) pss_nil)
      (pss_cons (ps_for (passes_of rfl) rfl (k_zip K (by rfl) T.uzip (pa_cons (pv 0) (pa_cons (pv 1) pa_nil))) (k_pgt (n := 2) K rfl (pgs_cons (pg_name (i := 2) sc_law_like.nd rfl (Or.inl rfl)) (pgs_cons (pg_name (i := 3) sc_law_like.nd rfl (Or.inl rfl)) pgs_nil))) (pss_one (ps_if (pt_not (pt_val (q_call GR (hr.mono (by omega)) T.g_law_like passX (pa_cons (pv 2) (pa_cons (pv 3) pa_nil))))) (pss_one (ps_ret pe_bl)) pss_nil)))
      (pss_one (ps_ret pe_bl))))))))))), ?_⟩
      try dsimp only [cxOf]
      obtain ⟨x, y, d, rfl, hx, hy, hd, q⟩ := h
      walk_at "z"
      cases hx with
      | non =>
        cases hy
        refine z_yes rfl ?_
        walk_at "z"
        exact q H (Same.refl H)
      | bl b =>
        cases hy
        refine z_no (by intro z; cases z) ?_
        walk_at "z"
        cases b with
        | true =>
          refine z_yes rfl ?_
          walk_at "z"
          exact q H (Same.refl H)
        | false =>
          refine z_no (by intro z; cases z) ?_
          walk_at "z"
          refine z_yes rfl ?_
          walk_at "z"
          exact q H (Same.refl H)
      | int i =>
        cases hy
        refine z_no (by intro z; cases z) ?_
        walk_at "z"
        refine z_no (by intro z; cases z) ?_
        walk_at "z"
        refine z_no (by intro z; cases z) ?_
        walk_at "z"
        refine z_isI true (by decide +kernel) ?_
        walk_at "z"
        refine ⟨_, _, rfl, .int i, ?_⟩
        walk_at "z"
        refine iteT ?_
        walk_at "z"
        have e : decide (i = i) = true := decide_eq_true rfl
        rw [e]
        exact q H (Same.refl H)
      | str i =>
        cases hy
        refine z_no (by intro z; cases z) ?_
        walk_at "z"
        refine z_no (by intro z; cases z) ?_
        walk_at "z"
        refine z_no (by intro z; cases z) ?_
        walk_at "z"
        refine z_isS false (by decide +kernel) ?_
        walk_at "z"
        refine z_isS true (by decide +kernel) ?_
        walk_at "z"
        refine z_isS true (by decide +kernel) ?_
        walk_at "z"
        have e : decide (i = i) = true := decide_eq_true rfl
        rw [e]
        exact q H (Same.refl H)
      | @tup a xs ds ha hxs =>
        cases hy with
        | @tup b ys _ hb hys =>
        have hl : xs.length = ys.length := by rw [hxs.len, hys.len]
        refine z_no (by intro z; cases z) ?_
        walk_at "z"
        refine z_no (by intro z; cases z) ?_
        walk_at "z"
        refine z_no (by intro z; cases z) ?_
        walk_at "z"
        refine z_isT false hb (by decide +kernel) ?_
        walk_at "z"
        refine z_isT false hb (by decide +kernel) ?_
        walk_at "z"
        refine z_isT true hb (by decide +kernel) ?_
        walk_at "z"
        refine z_isT true ha (by decide +kernel) ?_
        walk_at "z"
        refine z_isT false hb (by decide +kernel) ?_
        walk_at "z"
        refine z_lenT (SqT.of ha) ?_
        walk_at "z"
        refine z_lenT (SqT.of hb) ?_
        walk_at "z"
        refine z_noN (by rw [hl]) ?_
        walk_at "z"
        refine ⟨_, _, _, _, rfl, .inr ⟨SqT.of ha, SqT.of hb, ?_⟩⟩
        refine RZ.for_zipT hl (fun i σ H' => ∃ u v, σ = [some (.ref a), some (.ref b), u, v] ∧ Same H H') ⟨_, _, rfl, Same.refl H⟩ (fun i σ H' ⟨_, _, _, s⟩ => ⟨s.tup (SqT.of ha), s.tup (SqT.of hb)⟩) ?_ ?_
        · rintro i x y T σ H' ex ey ⟨u, v, rfl, s1⟩ nT
          refine z_gTup (SqT.of upd_same) rfl ?_
          walk_at "z"
          obtain ⟨d, e1, e2⟩ := hxs.get ex
          obtain ⟨d', e1', e2'⟩ := hys.get ey
          cases e1.symm.trans e1'
          have s2 : Same H (upd H' T (.tup [x, y])) := s1.trans (Same.new nT)
          refine ⟨x, y, d, rfl, dv_same s2 e2, dv_same s2 e2', ?_, fun H2 s3 => ?_⟩
          · have := dpt_mem e1
            simp only [dpt] at hd
            omega
          · walk_at "z"
            exact ⟨_, _, rfl, s2.trans s3⟩
        · rintro σ H' ⟨u, v, rfl, s1⟩
          walk_at "z"
          exact q _ s1
      | @lst a xs ds ha hxs =>
        cases hy with
        | @lst b ys _ hb hys =>
        have hl : xs.length = ys.length := by rw [hxs.len, hys.len]
        refine z_no (by intro z; cases z) ?_
        walk_at "z"
        refine z_no (by intro z; cases z) ?_
        walk_at "z"
        refine z_no (by intro z; cases z) ?_
        walk_at "z"
        refine z_isL false hb (by decide +kernel) ?_
        walk_at "z"
        refine z_isL false hb (by decide +kernel) ?_
        walk_at "z"
        refine z_isL false hb (by decide +kernel) ?_
        walk_at "z"
        refine z_isL true hb (by decide +kernel) ?_
        walk_at "z"
        refine z_isL true ha (by decide +kernel) ?_
        walk_at "z"
        refine z_lenL (SqL.of ha) ?_
        walk_at "z"
        refine z_lenL (SqL.of hb) ?_
        walk_at "z"
        refine z_noN (by rw [hl]) ?_
        walk_at "z"
        refine ⟨_, _, _, _, rfl, .inl ⟨SqL.of ha, SqL.of hb, ?_⟩⟩
        refine RZ.for_zipL hl (fun i σ H' => ∃ u v, σ = [some (.ref a), some (.ref b), u, v] ∧ Same H H') ⟨_, _, rfl, Same.refl H⟩ (fun i σ H' ⟨_, _, _, s⟩ => ⟨s.seq (SqL.of ha), s.seq (SqL.of hb)⟩) ?_ ?_
        · rintro i x y T σ H' ex ey ⟨u, v, rfl, s1⟩ nT
          refine z_gTup (SqT.of upd_same) rfl ?_
          walk_at "z"
          obtain ⟨d, e1, e2⟩ := hxs.get ex
          obtain ⟨d', e1', e2'⟩ := hys.get ey
          cases e1.symm.trans e1'
          have s2 : Same H (upd H' T (.tup [x, y])) := s1.trans (Same.new nT)
          refine ⟨x, y, d, rfl, dv_same s2 e2, dv_same s2 e2', ?_, fun H2 s3 => ?_⟩
          · have := dpt_mem e1
            simp only [dpt] at hd
            omega
          · walk_at "z"
            exact ⟨_, _, rfl, s2.trans s3⟩
        · rintro σ H' ⟨u, v, rfl, s1⟩
          walk_at "z"
          exact q _ s1
def spSignK : Sp := fun vs H Q _ => ∃ c : Int, vs = [.int c] ∧ ∀ x : Str, x.length ≤ 1 → Q (.str x) H
abbrev n_law_sign : List Str := ["_law_cell_here", "_law_some"]
abbrev p_law_sign : List Str := ["_law_cell_here"]
theorem sc_law_sign : FnScope n_law_sign p_law_sign (defScope s_law_sign) := ⟨rfl, rfl, rfl, by decide +kernel, rfl, by decide +kernel, by decide +kernel⟩
theorem ok__law_sign {P : Program} {w : World} {K : PySem.W.Frag} {mg : Str → Option Value} {base : Heap} (T : Tx w K mg) : Fk P w K mg base 1 (He.ga K "_law_sign") p_law_sign (spSignK) := by
  refine Fk.mk' T.f_law_sign sc_law_sign (fun _ _ _ _ _ _ us hl => match us, hl with | [_], _ => rfl) (by
  intro vs H Q E h
  repeat (first | (obtain ⟨h1, _⟩ := h; subst h1; rfl) | (obtain ⟨_, h⟩ := h))) (fun cdv A outer s H vs Q E hr h => ?_)
  have hu := hu_of hr
  have hu64 := hr.units
  refine ⟨_, (pss_cons (ps_set (i := 1) sc_law_sign.nd rfl (Or.inl rfl) pe_str)
  (pss_cons (ps_set (i := 1) sc_law_sign.nd rfl (Or.inl rfl) (pe_op (k_add K) (pv 1) pe_str))
  (pss_one (ps_ret (k_ix K (pv 1) (pe_op op_mod (pv 0) pe_int) (fun _ _ => rfl)))))), ?_⟩
  try dsimp only [cxOf]
  obtain ⟨c, rfl, q⟩ := h
  walk_at "z"
  refine z_addS (sz1000 (by decide +kernel)) ?_
  walk_at "z"
  refine z_I (by decide) ?_
  walk_at "z"
  obtain ⟨u, hu1⟩ := atI_txt (z := (" !\"#$&'()*+,-./0123456789:;<=>?@ABCDEFGHIJKLMNOPQRSTUVWXYZ[\\]^_`" : Str) ++ ("abcdefghijklmnopqrstuvwxyz{|}~\n" : Str)) (i := c % 95) (Int.emod_nonneg _ (by decide)) (by
    have e : ((" !\"#$&'()*+,-./0123456789:;<=>?@ABCDEFGHIJKLMNOPQRSTUVWXYZ[\\]^_`" : Str) ++ ("abcdefghijklmnopqrstuvwxyz{|}~\n" : Str)).length = 95 := by decide +kernel
    rw [e]
    exact Int.emod_lt_of_pos _ (by decide))
  exact .inr (.inr ⟨_, _, u, rfl, rfl, sz1000 (by decide +kernel), hu1, q _ (Nat.le_refl 1)⟩)
def spPieceK : Sp := fun vs H Q _ => ∃ c : Int, vs = [.int c] ∧ (0 ≤ c ∧ c < 14) ∧ ∀ H' x, Same H H' → x.length ≤ 20 → Q (.str x) H'
abbrev n_law_piece : List Str := ["_law_figure", "_law_some"]
abbrev p_law_piece : List Str := ["_law_figure"]
theorem sc_law_piece : FnScope n_law_piece p_law_piece (defScope s_law_piece) := ⟨rfl, rfl, rfl, by decide +kernel, rfl, by decide +kernel, by decide +kernel⟩
theorem ok__law_piece {P : Program} {w : World} {K : PySem.W.Frag} {mg : Str → Option Value} {base : Heap} (T : Tx w K mg) : Fk P w K mg base 1 (He.ga K "_law_piece") p_law_piece (spPieceK) := by
  refine Fk.mk' T.f_law_piece sc_law_piece (fun _ _ _ _ _ _ us hl => match us, hl with | [_], _ => rfl) (by
  intro vs H Q E h
  repeat (first | (obtain ⟨h1, _⟩ := h; subst h1; rfl) | (obtain ⟨_, h⟩ := h))) (fun cdv A outer s H vs Q E hr h => ?_)
  have hu := hu_of hr
  have hu64 := hr.units
  refine ⟨_, (pss_cons (ps_set (i := 1) sc_law_piece.nd rfl (Or.inl rfl) (pe_lst (pa_cons pe_str (pa_cons pe_str (pa_cons pe_str (pa_cons pe_str (pa_cons pe_str (pa_cons pe_str (pa_cons pe_str (pa_cons pe_str (pa_cons pe_str (pa_cons pe_str (pa_cons pe_str (pa_cons pe_str (pa_cons pe_str (pa_cons pe_str pa_nil))))))))))))))))
  (pss_one (ps_ret (k_ix K (pv 1) (pv 0) (fun _ _ => rfl))))), ?_⟩
  try dsimp only [cxOf]
  obtain ⟨c, rfl, ⟨h0, h1⟩, q⟩ := h
  walk_at "z"
  walk_at "zt"
  rename_i L nL H1 s1 f1
  walk_at "z"
  obtain ⟨z, ez, lz⟩ := atI_pick (l := [" ", "0", "7", "cut", "sell ", "bundle 1 2 3", " 4", "-", "\n", "+", "1234567890", "fuse", " 1", "_"]) (n := 20) h0 h1 (by decide +kernel)
  refine z_ixL (SqL.of f1) ez ?_
  exact q _ _ s1 lz
def spRow : Sp := fun vs H Q _ => ∃ (z : Int) (m : Nat) (b : Int), vs = [.int z, .int (m : Nat), .int b] ∧ m ≤ 1000 ∧ 0 < b ∧ b < 100000000000 ∧ ∀ H' l, Same H H' → H l = none → H' l = some (.lst ((rowI z m b).map V.int)) → Q (.ref l) H'
abbrev n_law_row : List Str := ["_law_cell_here", "_law_many", "_law_base", "_law_found", "_law_k", "_law_turn"]
abbrev p_law_row : List Str := ["_law_cell_here", "_law_many", "_law_base"]
theorem sc_law_row : FnScope n_law_row p_law_row (defScope s_law_row) := ⟨rfl, rfl, rfl, by decide +kernel, rfl, by decide +kernel, by decide +kernel⟩
theorem ok__law_row {P : Program} {w : World} {K : PySem.W.Frag} {mg : Str → Option Value} {base : Heap} (T : Tx w K mg) : Fk P w K mg base 1 (He.ga K "_law_row") p_law_row (spRow) := by
  refine Fk.mk' T.f_law_row sc_law_row (fun _ _ _ _ _ _ us hl => match us, hl with | [_, _, _], _ => rfl) (by
  intro vs H Q E h
  repeat (first | (obtain ⟨h1, _⟩ := h; subst h1; rfl) | (obtain ⟨_, h⟩ := h))) (fun cdv A outer s H vs Q E hr h => ?_)
  have hu := hu_of hr
  have hu64 := hr.units
  refine ⟨_, (pss_cons (ps_set (i := 3) sc_law_row.nd rfl (Or.inl rfl) (pe_lst pa_nil))
  (pss_cons (ps_set (i := 0) sc_law_row.nd rfl (Or.inl rfl) (pe_callB call_absU (by rfl) T.uabs (by decide +kernel) (pa_cons (pv 0) pa_nil)))
  (pss_cons (ps_if (pt_cmpR op_ge (pv 0) (pe_op op_pow pe_int pe_int) (nomark _)) (pss_cons (ps_for (passes_of rfl) rfl (pi_range1 (by rfl) T.urange (pa_cons (pv 1) pa_nil)) (pg_name (i := 4) sc_law_row.nd rfl (Or.inl rfl)) (pss_cons (ps_expr (k_bm K PySem.F.plainAttrs_list PySem.F.slot_list_append PySem.F.type_list_append mt_append (pv 3) (pa_cons (pe_op op_mod (pv 0) (pv 2)) pa_nil)))
  (pss_one (ps_set (i := 0) sc_law_row.nd rfl (Or.inl rfl) (pe_op op_fdivW (pv 0) (pv 2))))))
  (pss_one (ps_ret (pv 3)))) pss_nil)
  (pss_cons (ps_set (i := 5) sc_law_row.nd rfl (Or.inl rfl) (pe_op op_mod (pe_op op_mulU (pe_op (k_add K) (pe_op op_mod (pv 0) pe_int) pe_int) pe_int) pe_int))
  (pss_cons (ps_for (passes_of rfl) rfl (pi_range1 (by rfl) T.urange (pa_cons (pv 1) pa_nil)) (pg_name (i := 4) sc_law_row.nd rfl (Or.inl rfl)) (pss_cons (ps_set (i := 5) sc_law_row.nd rfl (Or.inl rfl) (pe_op op_mod (pe_op (k_add K) (pe_op (k_add K) (pe_op op_mulU (pv 5) pe_int) (pe_op op_mulU pe_int (pv 4))) pe_int) pe_int))
  (pss_one (ps_expr (k_bm K PySem.F.plainAttrs_list PySem.F.slot_list_append PySem.F.type_list_append mt_append (pv 3) (pa_cons (pe_op op_mod (pe_op op_fdivW (pv 5) pe_int) (pv 2)) pa_nil))))))
  (pss_one (ps_ret (pv 3)))))))), ?_⟩
  try dsimp only [cxOf]
  obtain ⟨z, m, b, rfl, hm, hb, hb2, q⟩ := h
  walk_at "z"
  walk_at "zt"
  rename_i L nL H1 s1 f1
  walk_at "z"
  refine z_I ⟨by decide, by decide, by decide⟩ ?_
  walk_at "z"
  have ea : (if z < 0 then -z else z) = absI z := rfl
  rw [ea]
  unfold rowI at q
  refine z_ite (fun c => ?_) (fun c => ?_)
  · have c' : (1000000000000000000 : Int) ≤ absI z := c
    rw [if_pos c'] at q
    generalize absI z = a at q
    walk_at "z"
    refine ⟨_, rfl, by omega, by omega, ?_⟩
    rw [Int.toNat_natCast]
    refine for_range (fun i σ H' => Same H H' ∧ H' L = some (.lst ((List.range i).map fun j : Nat => V.int (zsI b j a % b))) ∧ ∃ k, σ = [some (.int (zsI b i a)), some (.int (m : Nat)), some (.int b), some (.ref L), k, none]) ⟨s1, f1, none, rfl⟩ ?_ ?_
    · rintro i σ H' hi ⟨s2, f2, k, rfl⟩
      walk_at "z"
      refine z_tyL (SqL.of f2) ?_
      walk_at "z"
      refine z_I hb ?_
      walk_at "z"
      refine z_app f2 (by simp; exact szlt (by omega)) ?_
      walk_at "z"
      refine z_I (divW hb (by omega)) ?_
      walk_at "z"
      exact ⟨s2.set nL, by rw [upd_same, List.range_succ, List.map_append]; rfl, _, rfl⟩
    · rintro σ H' ⟨s2, f2, k, rfl⟩
      walk_at "z"
      exact q H' L s2 nL (by rw [f2, List.map_map]; rfl)
  · have c' : ¬ (1000000000000000000 : Int) ≤ absI z := c
    rw [if_neg c'] at q
    generalize absI z = a at q
    walk_at "z"
    refine z_I (by decide) ?_
    walk_at "z"
    have h0 := Int.emod_nonneg a (show (1000003 : Int) ≠ 0 by decide)
    have h1 := Int.emod_lt_of_pos a (show (0 : Int) < 1000003 by decide)
    refine z_mulI (mulS (by omega) (by decide)) ?_
    walk_at "z"
    refine z_I (by decide) ?_
    walk_at "z"
    have g0 := Int.emod_nonneg ((a % 1000003 + 17) * 69621) (show (2147483647 : Int) ≠ 0 by decide)
    have g1 := Int.emod_lt_of_pos ((a % 1000003 + 17) * 69621) (show (0 : Int) < 2147483647 by decide)
    generalize (a % 1000003 + 17) * 69621 % 2147483647 = t at q g0 g1 ⊢
    refine ⟨_, rfl, by omega, by omega, ?_⟩
    rw [Int.toNat_natCast]
    refine for_range (fun i σ H' => Same H H' ∧ H' L = some (.lst ((List.range i).map fun j : Nat => V.int (tsI (j + 1) t / 1021 % b))) ∧ ∃ k, σ = [some (.int a), some (.int (m : Nat)), some (.int b), some (.ref L), k, some (.int (tsI i t))]) ⟨s1, f1, none, rfl⟩ ?_ ?_
    · rintro i σ H' hi ⟨s2, f2, k, rfl⟩
      have hr := ts_rg g0 g1 i
      walk_at "z"
      refine z_mulI (mulS (by omega) (by decide)) ?_
      walk_at "z"
      refine z_mulI (mulS (by decide) (by omega)) ?_
      walk_at "z"
      refine z_I (by decide) ?_
      walk_at "z"
      refine z_tyL (SqL.of f2) ?_
      walk_at "z"
      refine z_I (divW (by decide) (by decide)) ?_
      walk_at "z"
      refine z_I hb ?_
      walk_at "z"
      refine z_app f2 (by simp; exact szlt (by omega)) ?_
      walk_at "z"
      have e0 : (0 : Int) + (i : Nat) = (i : Nat) := Int.zero_add _
      rw [e0]
      exact ⟨s2.set nL, by rw [upd_same, List.range_succ, List.map_append]; rfl, _, rfl⟩
    · rintro σ H' ⟨s2, f2, k, rfl⟩
      walk_at "z"
      exact q H' L s2 nL (by rw [f2, List.map_map]; rfl)
def spWordK : Sp := fun vs H Q _ => ∃ z : Int, vs = [.int z] ∧ ∀ H' x, Same H H' → x.length ≤ 100 → Q (.str x) H'
abbrev n_law_word : List Str := ["_law_cell_here", "_law_signs", "_law_figure"]
abbrev p_law_word : List Str := ["_law_cell_here"]
theorem sc_law_word : FnScope n_law_word p_law_word (defScope s_law_word) := ⟨rfl, rfl, rfl, by decide +kernel, rfl, by decide +kernel, by decide +kernel⟩
theorem ok__law_word {P : Program} {w : World} {K : PySem.W.Frag} {mg : Str → Option Value} {base : Heap} (T : Tx w K mg) : Fk P w K mg base 2 (He.ga K "_law_word") p_law_word (spWordK) := by
  have G_law_row := ok__law_row (P := P) (w := w) (base := base) T
  refine Fk.mk' T.f_law_word sc_law_word (fun _ _ _ _ _ _ us hl => match us, hl with | [_], _ => rfl) (by
  intro vs H Q E h
  repeat (first | (obtain ⟨h1, _⟩ := h; subst h1; rfl) | (obtain ⟨_, h⟩ := h))) (fun cdv A outer s H vs Q E hr h => ?_)
  have hu := hu_of hr
  have hu64 := hr.units
  refine ⟨_, (pss_cons (ps_set (i := 1) sc_law_word.nd rfl (Or.inr rfl) pe_str)
  (pss_one (ps_ret (pe_join pe_str (pe_lc (own := [("_law_figure", 2)]) (g := gName 2) rfl sc_law_word.nd (k_pil K (q_call G_law_row (hr.mono (by omega)) T.g_law_row passX (pa_cons (pv 0) (pa_cons (pe_op (k_add K) pe_int (pe_op op_mod (pe_callB call_absU (by rfl) T.uabs (by decide +kernel) (pa_cons (pv 0) pa_nil)) pe_int)) (pa_cons pe_int pa_nil))))) (blkOk_by (own := [("_law_figure", 2)]) (N := n_law_word) (sc := defScope s_law_word) (by decide +kernel)) (fun _ _ _ _ _ => pg_name (i := 2) sc_law_word.nd rfl (Or.inl rfl)) (fun _ _ _ _ _ => pts_nil) (fun _ _ _ _ _ => (k_ix K (pv 1) (pv 2) (fun _ _ => rfl)))))))), ?_⟩
  try dsimp only [cxOf]
  obtain ⟨z, rfl, q⟩ := h
  walk_at "z"
  refine z_m1 ?_
  walk_at "z"
  refine ⟨⟨_, rfl⟩, ?_⟩
  walk_at "z"
  refine z_I (by decide) ?_
  walk_at "z"
  have g0 := Int.emod_nonneg (if z < 0 then -z else z) (show (4 : Int) ≠ 0 by decide)
  have g1 := Int.emod_lt_of_pos (if z < 0 then -z else z) (show (0 : Int) < 4 by decide)
  generalize (if z < 0 then -z else z) % 4 = u at g0 g1 ⊢
  refine ⟨z, (3 + u).toNat, 26, by rw [Int.toNat_of_nonneg (by omega)]; rfl, by omega, by decide, by decide, fun H1 R s1 nR f1 => ?_⟩
  refine ⟨R, rfl, ⟨_, SqL.of f1⟩, fun L hL => ?_⟩
  have hL0 : H L = none := s1.free hL
  have nRL : R ≠ L := ne_of_none f1 hL
  refine lc_list (K := K) (a := R) (xs := (rowI z (3 + u).toNat 26).map V.int) (fun i H' => Same H H' ∧ H' R = some (.lst ((rowI z (3 + u).toNat 26).map V.int)) ∧ ∃ ys : List Str, H' L = some (.lst (ys.map V.str)) ∧ ys.length = i ∧ ∀ y ∈ ys, y.length ≤ 1) ⟨s1.set hL0, by rw [upd_ne nRL]; exact f1, [], upd_same, rfl, by simp⟩ (fun i H' _ h => SqL.of h.2.1) ?_ ?_
  · rintro i x H' hi ⟨t1, t2, ys, t3, t4, t5⟩
    rw [List.getElem?_map] at hi
    cases e : (rowI z (3 + u).toNat 26)[i]? with
    | none => rw [e] at hi; cases hi
    | some n =>
      rw [e] at hi
      obtain rfl := Option.some.inj hi
      have hn := row_rg (z := z) (m := (3 + u).toNat) (b := 26) (by decide) n (List.mem_of_getElem? e)
      have hl : i < (3 + u).toNat := by
        have := (List.getElem?_eq_some_iff.mp e).1
        rw [row_len] at this; exact this
      walk_at "zw"
      walk_at "z"
      refine ⟨rfl, ?_⟩
      walk_at "z"
      obtain ⟨c, hc⟩ := atI_txt (z := "abcdefghijklmnopqrstuvwxyz") (i := n) hn.1 (by
        have e2 : ("abcdefghijklmnopqrstuvwxyz" : Str).length = 26 := by decide +kernel
        rw [e2]; exact hn.2)
      refine .inr (.inr ⟨_, _, c, rfl, rfl, sz1000 (by decide +kernel), hc, ?_⟩)
      refine ⟨_, t3, by rw [List.length_map]; exact szlt (by omega), t1.set hL0, by rw [upd_ne nRL]; exact t2, ys ++ [⟨#[c]⟩], by rw [upd_same, List.map_append]; rfl, by simp [t4], fun y hy => ?_⟩
      rcases List.mem_append.mp hy with hy | hy
      · exact t5 y hy
      · simp at hy; subst hy; exact Nat.le_refl 1
  · rintro H' ⟨t1, t2, ys, t3, t4, t5⟩
    rw [List.length_map, row_len] at t4
    have hb : (ys.map (·.length)).sum + ys.length * ("" : Str).length ≤ 100 := by
      have h1 := sum_le (l := ys.map (·.length)) (n := 1) fun x hx => by
        obtain ⟨y, hy, rfl⟩ := List.mem_map.mp hx
        exact t5 y hy
      rw [List.length_map] at h1
      have e0 : ("" : Str).length = 0 := by decide +kernel
      rw [e0]
      omega
    refine ⟨_, _, ys, rfl, rfl, .inl (SqL.of t3), Nat.le_trans hb (by decide), ?_⟩
    exact q _ _ t1 (Nat.le_trans str_len hb)
abbrev nlaw : List Str := ["_law_script", "_law_line", "_law_way", "_law_cell_here", "_law_at", "_law_some", "_law_figure", "_law_due", "_law_word_here", "_law_told"]
abbrev plaw : List Str := ["_law_script"]
theorem sclaw : FnScope nlaw plaw (defScope slaw) := ⟨rfl, rfl, rfl, by decide +kernel, rfl, by decide +kernel, by decide +kernel⟩
theorem ok_law {P : Program} {w : World} {K : PySem.W.Frag} {mg : Str → Option Value} {base : Heap} (T : Tx w K mg) {fd : FuncData} (F : FunD K "law" "law" (defArgs slaw) (defBody slaw) (defScope slaw) [] [] (He.ga K "law") fd) :
    FnOk P w K mg base (L2.CX P w) 10 (He.ga K "law") fd plaw (spLaw K) := by
  have Gwritten := ok_written (P := P) (w := w) (base := base) T
  have G_law_meant := ok__law_meant (P := P) (w := w) (base := base) T
  have G_law_tuple := ok__law_tuple (P := P) (w := w) (base := base) T
  have G_law_cell := ok__law_cell (P := P) (w := w) (base := base) T
  have Gread := ok_read (P := P) (w := w) (base := base) T
  have G_law_like := ok__law_like (P := P) (w := w) (base := base) T 8
  have G_law_sign := ok__law_sign (P := P) (w := w) (base := base) T
  have G_law_piece := ok__law_piece (P := P) (w := w) (base := base) T
  have G_law_word := ok__law_word (P := P) (w := w) (base := base) T
  have G_law_row := ok__law_row (P := P) (w := w) (base := base) T
  refine F.ok (CX := L2.CX P w) sclaw (by
    intro vs H Q E h
    repeat (first | (obtain ⟨h1, _⟩ := h; subst h1; rfl) | (obtain ⟨_, h⟩ := h))) (fun cdv A outer s H vs Q E hr h => ?_)
  have hu := hu_of hr
  have hu64 := hr.units
  refine ⟨_, (pss_cons (ps_set (i := 1) sclaw.nd rfl (Or.inl rfl) (q_call Gwritten (hr.mono (by omega)) T.gwritten passX (pa_cons (q_call G_law_tuple (hr.mono (by omega)) T.g_law_tuple passX (pa_cons (pv 0) pa_nil)) pa_nil)))
  (pss_cons (ps_set (i := 2) sclaw.nd rfl (Or.inl rfl) (pe_op op_mod (q_call G_law_cell (hr.mono (by omega)) T.g_law_cell passX (pa_cons (pv 0) (pa_cons pe_int pa_nil))) pe_int))
  (pss_cons (ps_set (i := 3) sclaw.nd rfl (Or.inl rfl) (pe_callB call_absU (by rfl) T.uabs (by decide +kernel) (pa_cons (q_call G_law_cell (hr.mono (by omega)) T.g_law_cell passX (pa_cons (pv 0) (pa_cons pe_int pa_nil))) pa_nil)))
  (pss_cons (ps_set (i := 4) sclaw.nd rfl (Or.inl rfl) (pe_op op_mod (pe_op op_fdivW (pv 3) pe_int) (pe_op (k_add K) (pe_callB (k_len K) (by rfl) T.ulen (by decide +kernel) (pa_cons (pv 1) pa_nil)) pe_int)))
  (pss_cons (ps_if (PW.pt (pw_or (pt_cmpR (k_eq K hu64) (pv 2) pe_int (nomark _)) (pw_or1 (pt_cmpR (k_eq K hu64) (pv 2) pe_int (nomark _))))) (pss_one (ps_set (i := 1) sclaw.nd rfl (Or.inl rfl) (pe_op (k_add K) (pe_op (k_add K) (pe_slice sl_str (pv 1) po_none (po_some (pv 4))) (q_call G_law_sign (hr.mono (by omega)) T.g_law_sign passX (pa_cons (pv 3) pa_nil))) (pe_slice sl_str (pv 1) (po_some (pv 4)) po_none)))) pss_nil)
  (pss_cons (ps_if (pt_cmpR (k_eq K hu64) (pv 2) pe_int (nomark _)) (pss_one (ps_set (i := 1) sclaw.nd rfl (Or.inl rfl) (pe_op (k_add K) (pe_slice sl_str (pv 1) po_none (po_some (pv 4))) (pe_slice sl_str (pv 1) (po_some (pe_op (k_add K) (pv 4) pe_int)) po_none)))) pss_nil)
  (pss_cons (ps_if (pt_cmpR (k_eq K hu64) (pv 2) pe_int (nomark _)) (pss_one (ps_set (i := 1) sclaw.nd rfl (Or.inl rfl) (pe_op (k_add K) (pe_op (k_add K) (pe_slice sl_str (pv 1) po_none (po_some (pv 4))) (q_call G_law_sign (hr.mono (by omega)) T.g_law_sign passX (pa_cons (pv 3) pa_nil))) (pe_slice sl_str (pv 1) (po_some (pe_op (k_add K) (pv 4) pe_int)) po_none)))) pss_nil)
  (pss_cons (ps_if (pt_cmpR (k_eq K hu64) (pv 2) pe_int (nomark _)) (pss_cons (ps_set (i := 5) sclaw.nd rfl (Or.inl rfl) (pe_split (pv 1) pe_str))
  (pss_cons (ps_asg (pe_op (k_add K) pe_str (k_ix K (pv 5) (pe_op op_mod (pv 3) (pe_callB (k_len K) (by rfl) T.ulen (by decide +kernel) (pa_cons (pv 5) pa_nil))) (fun _ _ => rfl))) (pg_sub (pv 5) (pe_op op_mod (pv 3) (pe_callB (k_len K) (by rfl) T.ulen (by decide +kernel) (pa_cons (pv 5) pa_nil))) set_list))
  (pss_one (ps_set (i := 1) sclaw.nd rfl (Or.inl rfl) (pe_join pe_str (pv 5)))))) pss_nil)
  (pss_cons (ps_if (pt_cmpR (k_eq K hu64) (pv 2) pe_int (nomark _)) (pss_one (ps_set (i := 1) sclaw.nd rfl (Or.inl rfl) (pe_join pe_str (pe_op (k_add K) (pe_lst (pa_cons (q_call G_law_word (hr.mono (by omega)) T.g_law_word passX (pa_cons (pv 3) pa_nil)) pa_nil)) (pe_slice (k_sll K) (pe_split (pv 1) pe_str) (po_some pe_int) po_none))))) pss_nil)
  (pss_cons (ps_if (pt_cmpR (k_eq K hu64) (pv 2) pe_int (nomark _)) (pss_one (ps_set (i := 1) sclaw.nd rfl (Or.inl rfl) (pe_join pe_str (pe_lc (own := [("_law_figure", 6)]) (g := gName 6) rfl sclaw.nd (k_pil K (q_call G_law_row (hr.mono (by omega)) T.g_law_row passX (pa_cons (pv 3) (pa_cons (pe_op op_mod (pv 3) pe_int) (pa_cons pe_int pa_nil))))) (blkOk_by (own := [("_law_figure", 6)]) (N := nlaw) (sc := defScope slaw) (by decide +kernel)) (fun _ _ _ _ _ => pg_name (i := 6) sclaw.nd rfl (Or.inl rfl)) (fun _ _ _ _ _ => pts_nil) (fun _ _ _ _ _ => (q_call G_law_piece (hr.mono (by omega)) T.g_law_piece passL (pa_cons (pv 6) pa_nil))))))) pss_nil)
  (pss_cons (ps_set (i := 7) sclaw.nd rfl (Or.inl rfl) (q_call G_law_meant (hr.mono (by omega)) T.g_law_meant passX (pa_cons (pv 1) pa_nil)))
  (pss_cons (ps_set (i := 8) sclaw.nd rfl (Or.inl rfl) pe_str)
  (pss_cons (ps_set (i := 9) sclaw.nd rfl (Or.inl rfl) pe_non)
  (pss_cons (ps_try_only rfl rfl ⟨rfl, by decide, .inl T.gBadLine⟩ takesX (fun W pn xe tk hpo => (pss_one (ps_set (i := 9) sclaw.nd rfl (Or.inl rfl) (q_callS Gread (hr.mono (by omega)) T.gread (fun σ => passAt tk σ) (by exact (pa_cons (pv 1) pa_nil)))))) (fun a oe cls d pn _ _ => (pss_one (ps_set (i := 8) sclaw.nd rfl (Or.inl rfl) pe_str))))
  (pss_cons (ps_if (pt_cmpR op_isX (pv 7) pe_non (nomark _)) (pss_one (ps_ret (pe_cmpR (k_eq K hu64) (pv 8) pe_str (nomark _)))) pss_nil)
  (pss_one (ps_ret (pe_and (pe_cmpR (k_eq K hu64) (pv 8) pe_str (nomark _)) (pe_one (q_call G_law_like (hr.mono (by omega)) T.g_law_like passX (pa_cons (pv 9) (pa_cons (pv 7) pa_nil)))))))))))))))))))))), ?_⟩
  try dsimp only [cxOf]
  obtain ⟨a, ns, rfl, hs, hlen, hbits, q⟩ := h
  walk_at "z"
  refine ⟨a, ns, rfl, hs, fun H1 t dd s1 f1 hdd => ?_⟩
  walk_at "z"
  refine ⟨t, dd.vals, dd.items, rfl, f1, items_dv dd, items_isI dd, fun hb => absurd hb (by rw [hdd]; exact fun z => by cases z), fun dd' e hb' H3 s3 => ?_⟩
  obtain rfl := items_inj e
  clear e hb'
  have hline := line_len hdd
  generalize dd.line = ln at hline ⊢
  have sA := s1.trans s3
  walk_at "z"
  refine ⟨a, ns, 5, rfl, sA.seq hs, ?_⟩
  walk_at "z"
  refine z_I (by decide) ?_
  walk_at "z"
  refine ⟨a, ns, 6, rfl, sA.seq hs, ?_⟩
  walk_at "z"
  refine z_I (divW (by decide) (by decide)) ?_
  walk_at "z"
  refine z_lenS (sz1000 (by omega)) ?_
  walk_at "z"
  refine z_I (by omega) ?_
  walk_at "y"
  have e : (0 : Int) < cell ns 5 % 8 → ln.length ≤ 100 := fun _ => hline
  have hl : ln.length ≤ 50000 := by omega
  have hc0 : (0 : Int) ≤ (if cell ns 6 < 0 then -cell ns 6 else cell ns 6) := by split <;> omega
  obtain ⟨at9, eat⟩ : ∃ at9, at9 = (if cell ns 6 < 0 then -cell ns 6 else cell ns 6) / 95 % (((ln.length : Nat) : Int) + 1) := ⟨_, rfl⟩
  rw [← eat]
  clear eat
  generalize (if cell ns 6 < 0 then -cell ns 6 else cell ns 6) = c at hc0 ⊢
  generalize cell ns 5 % 8 = way at e ⊢
  clear hline f1 s1 s3
  refine z_joinIf (R := fun σ' H' => Same H H' ∧ ∃ ln so, σ' = [some (.ref a), some (.str ln), some (.int way), some (.int c), some (.int at9), so, none, none, none, none] ∧ ln.length ≤ 50000 ∧ (2 < way → ln.length ≤ 100)) (fun D' k rt => ?_) ?_
  · walk_at "z"
    refine z_ite (fun c1 => ?_) (fun c1 => ?_)
    · have l1 := e (by omega)
      walk_at "z"
      refine ⟨ln, rfl, sz1000 (by omega), ?_⟩
      walk_at "z"
      refine ⟨c, rfl, fun x hx => ?_⟩
      walk_at "z"
      refine z_addS (sz1000 (by have q1 := cutS_length ln none (some at9); have q2 := cutS_length ln (some at9) none; have q3 := cutS_length ln (some (at9 + 1)) none; (try rw [app_len]); omega)) ?_
      walk_at "z"
      refine ⟨ln, rfl, sz1000 (by omega), ?_⟩
      walk_at "z"
      refine z_addS (sz1000 (by have q1 := cutS_length ln none (some at9); have q2 := cutS_length ln (some at9) none; have q3 := cutS_length ln (some (at9 + 1)) none; (try rw [app_len]); omega)) ?_
      walk_at "z"
      exact k _ _ ⟨sA, _, none, rfl, by have q1 := cutS_length ln none (some at9); have q2 := cutS_length ln (some at9) none; have q3 := cutS_length ln (some (at9 + 1)) none; (try rw [app_len]); (try rw [app_len]); omega, fun h => by omega⟩
    · walk_at "z"
      refine z_ite (fun c2 => ?_) (fun c2 => ?_)
      · have l1 := e (by omega)
        walk_at "z"
        refine ⟨ln, rfl, sz1000 (by omega), ?_⟩
        walk_at "z"
        refine ⟨c, rfl, fun x hx => ?_⟩
        walk_at "z"
        refine z_addS (sz1000 (by have q1 := cutS_length ln none (some at9); have q2 := cutS_length ln (some at9) none; have q3 := cutS_length ln (some (at9 + 1)) none; (try rw [app_len]); omega)) ?_
        walk_at "z"
        refine ⟨ln, rfl, sz1000 (by omega), ?_⟩
        walk_at "z"
        refine z_addS (sz1000 (by have q1 := cutS_length ln none (some at9); have q2 := cutS_length ln (some at9) none; have q3 := cutS_length ln (some (at9 + 1)) none; (try rw [app_len]); omega)) ?_
        walk_at "z"
        exact k _ _ ⟨sA, _, none, rfl, by have q1 := cutS_length ln none (some at9); have q2 := cutS_length ln (some at9) none; have q3 := cutS_length ln (some (at9 + 1)) none; (try rw [app_len]); (try rw [app_len]); omega, fun h => by omega⟩
      · walk_at "z"
        exact k _ _ ⟨sA, ln, none, rfl, by omega, fun h => e (by omega)⟩
  clear sA hl e
  rintro σ' H1 ⟨sA, ln, so, rfl, hl, e⟩
  walk_at "y"
  refine z_joinIf (R := fun σ' H' => Same H H' ∧ ∃ ln so, σ' = [some (.ref a), some (.str ln), some (.int way), some (.int c), some (.int at9), so, none, none, none, none] ∧ ln.length ≤ 50000 ∧ (3 < way → ln.length ≤ 100)) (fun D' k rt => ?_) ?_
  · walk_at "z"
    refine z_ite (fun c1 => ?_) (fun c1 => ?_)
    · have l1 := e (by omega)
      walk_at "z"
      refine ⟨ln, rfl, sz1000 (by omega), ?_⟩
      walk_at "z"
      refine ⟨ln, rfl, sz1000 (by omega), ?_⟩
      walk_at "z"
      refine z_addS (sz1000 (by have q1 := cutS_length ln none (some at9); have q2 := cutS_length ln (some at9) none; have q3 := cutS_length ln (some (at9 + 1)) none; (try rw [app_len]); omega)) ?_
      walk_at "z"
      exact k _ _ ⟨sA, _, so, rfl, by have q1 := cutS_length ln none (some at9); have q2 := cutS_length ln (some at9) none; have q3 := cutS_length ln (some (at9 + 1)) none; (try rw [app_len]); (try rw [app_len]); omega, fun h => by omega⟩
    · walk_at "z"
      exact k _ _ ⟨sA, ln, so, rfl, by omega, fun h => e (by omega)⟩
  clear sA hl e
  rintro σ' H1 ⟨sA, ln, so, rfl, hl, e⟩
  walk_at "y"
  refine z_joinIf (R := fun σ' H' => Same H H' ∧ ∃ ln so, σ' = [some (.ref a), some (.str ln), some (.int way), some (.int c), some (.int at9), so, none, none, none, none] ∧ ln.length ≤ 50000 ∧ (4 < way → ln.length ≤ 100)) (fun D' k rt => ?_) ?_
  · walk_at "z"
    refine z_ite (fun c1 => ?_) (fun c1 => ?_)
    · have l1 := e (by omega)
      walk_at "z"
      refine ⟨ln, rfl, sz1000 (by omega), ?_⟩
      walk_at "z"
      refine ⟨c, rfl, fun x hx => ?_⟩
      walk_at "z"
      refine z_addS (sz1000 (by have q1 := cutS_length ln none (some at9); have q2 := cutS_length ln (some at9) none; have q3 := cutS_length ln (some (at9 + 1)) none; (try rw [app_len]); omega)) ?_
      walk_at "z"
      refine ⟨ln, rfl, sz1000 (by omega), ?_⟩
      walk_at "z"
      refine z_addS (sz1000 (by have q1 := cutS_length ln none (some at9); have q2 := cutS_length ln (some at9) none; have q3 := cutS_length ln (some (at9 + 1)) none; (try rw [app_len]); omega)) ?_
      walk_at "z"
      exact k _ _ ⟨sA, _, so, rfl, by have q1 := cutS_length ln none (some at9); have q2 := cutS_length ln (some at9) none; have q3 := cutS_length ln (some (at9 + 1)) none; (try rw [app_len]); (try rw [app_len]); omega, fun h => by omega⟩
    · walk_at "z"
      exact k _ _ ⟨sA, ln, so, rfl, by omega, fun h => e (by omega)⟩
  clear sA hl e
  rintro σ' H1 ⟨sA, ln, so, rfl, hl, e⟩
  walk_at "y"
  refine z_joinIf (R := fun σ' H' => Same H H' ∧ ∃ ln so, σ' = [some (.ref a), some (.str ln), some (.int way), some (.int c), some (.int at9), so, none, none, none, none] ∧ ln.length ≤ 50000 ∧ (5 < way → ln.length ≤ 100)) (fun D' k rt => ?_) ?_
  · walk_at "z"
    refine z_ite (fun c1 => ?_) (fun c1 => ?_)
    · have l1 := e (by omega)
      walk_at "z"
      refine z_m1 ?_
      walk_at "z"
      refine ⟨⟨_, rfl⟩, ?_⟩
      walk_at "z"
      refine ⟨ln, " ", rfl, rfl, by decide +kernel, sz1000 (by omega), ?_⟩
      have ew : Txt.split ln " " = wordsOf ln := rfl
      rw [ew]
      have hwl := words_len ln
      have hw1 : ∀ w ∈ wordsOf ln, w.length ≤ ln.length := fun w hw => word_len hw
      obtain ⟨w, r, er⟩ := words_ne ln
      generalize wordsOf ln = ws at hwl hw1 er ⊢
      intro W nW
      have nW0 : H W = none := sA.free nW
      generalize hH : upd H1 W _ = H2
      have s2 := new_same nW hH
      have f2 := new_at hH
      clear hH
      walk_at "z"
      refine z_lenL (SqL.of f2) ?_
      walk_at "z"
      have hl0 : 0 < (ws.map V.str).length := by rw [er]; simp
      refine z_I (by omega) ?_
      have g0 := Int.emod_nonneg c (show ((((ws.map V.str).length : Nat) : Int)) ≠ 0 by omega)
      have g1 := Int.emod_lt_of_pos c (show (0 : Int) < (((ws.map V.str).length : Nat) : Int) by omega)
      obtain ⟨j, ej⟩ : ∃ j : Nat, c % (((ws.map V.str).length : Nat) : Int) = (j : Int) := ⟨(c % (((ws.map V.str).length : Nat) : Int)).toNat, by omega⟩
      have hj : j < ws.length := by rw [List.length_map] at g1 ej; omega
      refine z_ixL (SqL.of f2) (atI_of (n := j) (v := .str ws[j]) (by rw [List.getElem?_map, List.getElem?_eq_getElem hj]; rfl) ej) ?_
      have hwj := hw1 ws[j] (List.getElem_mem hj)
      have e1 : ("0" : Str).length = 1 := by decide +kernel
      refine z_addS (sz1000 (by omega)) ?_
      walk_at "z"
      refine z_lenL (SqL.of f2) ?_
      walk_at "z"
      refine z_I (by omega) ?_
      refine z_setL (n := j) f2 ej (by rw [List.length_map]; exact hj) ?_
      rw [map_setS]
      walk_at "z"
      refine z_m1 ?_
      walk_at "z"
      refine ⟨⟨_, rfl⟩, ?_⟩
      walk_at "z"
      have hb : ((ws.set j ("0" ++ ws[j])).map (·.length)).sum + (ws.set j ("0" ++ ws[j])).length * (" " : Str).length ≤ 101 * 101 + 101 := by
        refine join_bound (by rw [List.length_set]; omega) (fun y hy => ?_) (by decide +kernel)
        rcases List.mem_or_eq_of_mem_set hy with h | h
        · have := hw1 y h; omega
        · rw [h, app_len]; omega
      refine ⟨_, W, _, rfl, rfl, .inl (SqL.of upd_same), Nat.le_trans hb (by decide), ?_⟩
      walk_at "z"
      exact k _ _ ⟨((sA.trans s2).set nW0), _, _, rfl, Nat.le_trans str_len (Nat.le_trans hb (by decide)), fun h => by omega⟩
    · walk_at "z"
      exact k _ _ ⟨sA, ln, so, rfl, by omega, fun h => e (by omega)⟩
  clear sA hl e
  rintro σ' H1 ⟨sA, ln, so, rfl, hl, e⟩
  walk_at "y"
  refine z_joinIf (R := fun σ' H' => Same H H' ∧ ∃ ln so, σ' = [some (.ref a), some (.str ln), some (.int way), some (.int c), some (.int at9), so, none, none, none, none] ∧ ln.length ≤ 50000 ∧ (6 < way → ln.length ≤ 100)) (fun D' k rt => ?_) ?_
  · walk_at "z"
    refine z_ite (fun c1 => ?_) (fun c1 => ?_)
    · have l1 := e (by omega)
      walk_at "z"
      refine z_m1 ?_
      walk_at "z"
      refine ⟨⟨_, rfl⟩, ?_⟩
      walk_at "z"
      refine ⟨c, rfl, fun H2 x s2 hx => ?_⟩
      walk_at "z"
      walk_at "zt"
      rename_i A nA H3 s3 f3
      walk_at "z"
      refine z_m1 ?_
      walk_at "z"
      refine ⟨⟨_, rfl⟩, ?_⟩
      walk_at "z"
      refine ⟨ln, " ", rfl, rfl, by decide +kernel, sz1000 (by omega), ?_⟩
      have ew : Txt.split ln " " = wordsOf ln := rfl
      rw [ew]
      have hwl := words_len ln
      have hw1 : ∀ w ∈ wordsOf ln, w.length ≤ ln.length := fun w hw => word_len hw
      obtain ⟨w, r, er⟩ := words_ne ln
      generalize wordsOf ln = ws at hwl hw1 er ⊢
      intro W nW
      generalize hH : upd H3 W _ = H4
      have s4 := new_same nW hH
      have f4 := new_at hH
      clear hH
      walk_at "z"
      refine z_slL (ys := r.map V.str) (SqL.of f4) (by rw [er]; exact cut_from _ 1) ?_
      walk_at "zn"
      rename_i P nP H5 s5 f5
      walk_at "z"
      have hr1 : r.length ≤ ln.length := by
        have := hwl
        rw [er] at this
        simp only [List.length_cons] at this
        omega
      refine z_addL (s5 _ _ (s4 _ _ f3)) f5 (sz1000 (by simp; omega)) ?_
      walk_at "zn"
      rename_i Z nZ H6 s6 f6
      have f6 : H6 Z = some (.lst ((x :: r).map V.str)) := f6
      walk_at "z"
      have hb : ((x :: r).map (·.length)).sum + (x :: r).length * (" " : Str).length ≤ 101 * 100 + 101 := by
        refine join_bound (by rw [List.length_cons]; omega) (fun y hy => ?_) (by decide +kernel)
        rcases List.mem_cons.mp hy with h | h
        · rw [h]; exact hx
        · have := hw1 y (by rw [er]; exact List.mem_cons_of_mem _ h); omega
      refine ⟨_, Z, _, rfl, rfl, .inl (SqL.of f6), Nat.le_trans hb (by decide), ?_⟩
      walk_at "z"
      exact k _ _ ⟨((((sA.trans s2).trans s3).trans s4).trans s5).trans s6, _, _, rfl, Nat.le_trans str_len (Nat.le_trans hb (by decide)), fun h => by omega⟩
    · walk_at "z"
      exact k _ _ ⟨sA, ln, so, rfl, by omega, fun h => e (by omega)⟩
  clear sA hl e
  rintro σ' H1 ⟨sA, ln, so, rfl, hl, e⟩
  walk_at "y"
  refine z_joinIf (R := fun σ' H' => Same H H' ∧ ∃ ln so, σ' = [some (.ref a), some (.str ln), some (.int way), some (.int c), some (.int at9), so, none, none, none, none] ∧ ln.length ≤ 50000 ∧ (7 < way → ln.length ≤ 100)) (fun D' k rt => ?_) ?_
  · walk_at "z"
    refine z_ite (fun c1 => ?_) (fun c1 => ?_)
    · have l1 := e (by omega)
      walk_at "z"
      refine z_m1 ?_
      walk_at "z"
      refine ⟨⟨_, rfl⟩, ?_⟩
      walk_at "z"
      refine z_I (by decide) ?_
      walk_at "z"
      have g0 := Int.emod_nonneg c (show (9 : Int) ≠ 0 by decide)
      have g1 := Int.emod_lt_of_pos c (show (0 : Int) < 9 by decide)
      refine ⟨c, (c % 9).toNat, 14, by rw [Int.toNat_of_nonneg g0]; rfl, by omega, by decide, by decide, fun H2 R s2 nR f2 => ?_⟩
      refine ⟨R, rfl, ⟨_, SqL.of f2⟩, fun L hL => ?_⟩
      have sB := sA.trans s2
      have hL0 : H L = none := sB.free hL
      have nRL : R ≠ L := ne_of_none f2 hL
      refine lc_list (K := K) (a := R) (xs := (rowI c (c % 9).toNat 14).map V.int) (fun i H' => Same H H' ∧ H' R = some (.lst ((rowI c (c % 9).toNat 14).map V.int)) ∧ ∃ ys : List Str, H' L = some (.lst (ys.map V.str)) ∧ ys.length = i ∧ ∀ y ∈ ys, y.length ≤ 20) ⟨sB.set hL0, by rw [upd_ne nRL]; exact f2, [], upd_same, rfl, by simp⟩ (fun i H' _ h => SqL.of h.2.1) ?_ ?_
      · rintro i x H' hi ⟨t1, t2, ys, t3, t4, t5⟩
        rw [List.getElem?_map] at hi
        cases ei : (rowI c (c % 9).toNat 14)[i]? with
        | none => rw [ei] at hi; cases hi
        | some n =>
          rw [ei] at hi
          obtain rfl := Option.some.inj hi
          have hn := row_rg (z := c) (m := (c % 9).toNat) (b := 14) (by decide) n (List.mem_of_getElem? ei)
          have hl9 : i < (c % 9).toNat := by
            have := (List.getElem?_eq_some_iff.mp ei).1
            rw [row_len] at this; exact this
          walk_at "zw"
          walk_at "z"
          refine ⟨rfl, ?_⟩
          walk_at "z"
          refine ⟨n, rfl, hn, fun H3 y s3 hy => ?_⟩
          have nRL3 : s3 _ _ t3 = s3 _ _ t3 := rfl
          refine ⟨_, s3 _ _ t3, by rw [List.length_map]; exact szlt (by omega), (t1.trans s3).set hL0, by rw [upd_ne nRL]; exact s3 _ _ t2, ys ++ [y], by rw [upd_same, List.map_append]; rfl, by simp [t4], fun z hz => ?_⟩
          rcases List.mem_append.mp hz with hz | hz
          · exact t5 z hz
          · simp at hz; subst hz; exact hy
      · rintro H3 ⟨t1, t2, ys, t3, t4, t5⟩
        rw [List.length_map, row_len] at t4
        have hb : (ys.map (·.length)).sum + ys.length * ("" : Str).length ≤ 9 * 20 + 9 := join_bound (by omega) t5 (by decide +kernel)
        refine ⟨_, _, ys, rfl, rfl, .inl (SqL.of t3), Nat.le_trans hb (by decide), ?_⟩
        walk_at "z"
        exact k _ _ ⟨t1, _, _, rfl, Nat.le_trans str_len (Nat.le_trans hb (by decide)), fun h => by omega⟩
    · walk_at "z"
      exact k _ _ ⟨sA, ln, so, rfl, by omega, fun h => e (by omega)⟩
  clear sA hl e
  rintro σ' H1 ⟨sA, ln, so, rfl, hl, e⟩
  walk_at "y"
  walk_at "z"
  refine ⟨ln, rfl, hl, fun w ms er H2 t2 s2 f2 => ?_, fun er H2 s2 => ?_⟩
  · walk_at "z"
    refine ⟨ln, rfl, hl, fun w' ms' er' H3 t3 s3 f3 => ?_, fun er' => by rw [er] at er'; cases er'⟩
    rw [er] at er'
    obtain ⟨rfl, rfl⟩ : w = w' ∧ ms = ms' := by
      have := Option.some.inj er'
      exact ⟨congrArg Prod.fst this, congrArg Prod.snd this⟩
    walk_at "z"
    refine z_no (by intro z; cases z) ?_
    walk_at "z"
    refine z_yes rfl ?_
    walk_at "z"
    refine ⟨_, _, .tuple (.str w :: ms.map PyData.int), rfl, .tup f3 (.cons (.str _) (DvAll.ints _)), .tup (s3 _ _ f2) (.cons (.str _) (DvAll.ints _)), ?_, fun H4 s4 => ?_⟩
    · simp [dpt, dptAll, dpt_intsE ms]
    · exact q _
  · walk_at "z"
    refine ⟨ln, rfl, hl, fun w' ms' er' => by (rw [er] at er'; cases er'), fun _ H3 s3 => ?_⟩
    refine ⟨true, T.xBadLine_BadLine, fun _ a _ => ?_, fun z => by cases z⟩
    walk_at "z"
    refine z_yes rfl ?_
    walk_at "z"
    exact q _
theorem law_walk : PySem.W.WalkO (PySem.W.view hR.prog [23]) hloose (PySem.W.XL (PySem.W.view hR.prog [23]) []) hk.says PySem.Challenge.rw_murrine_k17_lines_read.row.toRowW (HandSHeadRun.topDef hR.prog 23) [] (fun f vs => PySem.call f vs) := by
  refine Att.attach_callB (l := PySem.Challenge.rw_murrine_k17_lines_read) (n := 63) rfl (by kernel_rfl) fun w s₀ s₁ mg mb fa o pm cd doc a vs ns G Y ho hd hcd hmg0 hobj hints hlen hbits hg => ?_
  obtain ⟨K, KX, c⟩ := Y
  have T : Tx w K mg := tx_of KX G.T.g c
  have hmg : mg ("law" : Str) = some (.ref fa) := by
    have e : (HandSHeadRun.topDef hR.prog 23).name = ("law" : Str) := by kernel_rfl
    rw [← e]
    exact hmg0
  have ef : fa = He.ga K "law" := Value.ref.inj (Option.some.inj (hmg.symm.trans T.glaw))
  subst ef
  obtain ⟨fd, F⟩ := T.flaw
  have hb : ∀ (s : Shared) (v : Value), BindsTo s fd ⟨[v], []⟩ [("_law_script", v)] := fun s v => FunD.bindsA (ps := ["_law_script"]) F (fun _ _ _ _ _ _ us hl => match us, hl with | [_], _ => rfl) s [v] rfl
  refine law_call KX G.T.g G.T.b G.T.builtins G.T.nolimit hg hobj hints (Nat.le_trans hlen (by decide)) (k := 10) (CX := L2.CX PySem.Challenge.rw_murrine_k17_lines_read.prog w) (sp := spLaw K) ⟨rfl, by decide, by decide⟩ (fun base b1 b2 => ok_law T F) hb (fun H hO hS => ⟨a, ns, rfl, hS, hlen, hbits, fun _ => rfl⟩) (fun H e s' h => ?_)
  obtain ⟨_, _, _, _, _, _, _, _, _, _, _, _, z⟩ := h
  exact z
end Mur
open PySem PySem.W PySem.Calls PyProof.Rows
theorem PySem.Challenge.cw_murrine_k17_lines_read_holds : PySem.Challenge.rw_murrine_k17_lines_read.Holds := by
  w_on; o_law
  refine HandSHeadRun.head_any (r := OpenLaw.row PySem.Challenge.rw_murrine_k17_lines_read) (q := view (OpenLaw.row PySem.Challenge.rw_murrine_k17_lines_read).prog [23]) (H := Mur.hk) (ob := Mur.hob) (M := 8000) (loose := Mur.hloose) (d := HandSHeadRun.topDef (OpenLaw.row PySem.Challenge.rw_murrine_k17_lines_read).prog 23) (kwd := []) Mur.hob_eq
    (by kernel_rfl) (fun s => by kernel_rfl) Mur.hrun (by kernel_rfl) (by kernel_rfl) (by kernel_rfl) (by rfl) (by first | assumption | decide +kernel) (by decide +kernel) ⟨rfl, rfl, rfl, rfl, rfl, by decide +kernel⟩ ?hw ?hc
  case hw => w_witness2
  case hc => exact Mur.law_walk
#print axioms PySem.Challenge.cw_murrine_k17_lines_read_holds
