import PyProof.Rows.All
import Wide.All
import OpenK.AllK
import Wide.FinOn
import KE.KStateDown
import Lean
import HandS.ForMost
import HandS.ForExc
import HandS.TryMany
import HandS.Defaults
import HandS.EndBits
import HandS.IsInst
import HandS.Style
import HandS.Zip
import HandS.Walk
import HandS.TupAny
import HandS.WideBits
import HandS.Wide
import HandS.Head0
import HandS.Head1
import HandS.Head2
import HandS.HeadEnd
import HandS.HeadHook1
import HandS.HeadHook2
import KE.KDictZip
import HandS.GenList
import HandS.RaiseMore
import PySem.Challenge.RW_murrine_k10_faces_stay
set_option Elab.async false
set_option linter.all false
set_option maxRecDepth 100000
set_option maxHeartbeats 4000000
/-! Own words over the hand layer: a def with its promise (Fk), its calls; readings step by step (z_*). -/
namespace Mur
open PySem hiding start
open PySem.Spec L2
open PyProof.Rows hiding St

/-! ### a def of the text that keeps its promise -/
structure Fk (P : Program) (w : World) (K : PySem.W.Frag) (mg : Str → Option Value) (base : Heap) (k : Nat) (f : Addr) (ps : List Str) (sp : Sp) : Prop where
  ex : ∃ fd, FnOk P w K mg base (L2.CX P w) k f fd ps sp ∧ Binds K fd ps []
  kp : PySem.W.keepIn K (.ref f) = true
section
variable {P : Program} {w : World} {K : PySem.W.Frag} {mg : Str → Option Value} {base : Heap} {k : Nat} {f : Addr} {ps : List Str} {sp : Sp}
theorem Fk.up {j : Nat} (G : Fk P w K mg base k f ps sp) (h : k ≤ j) : Fk P w K mg base j f ps sp :=
  let ⟨fd, a, b⟩ := G.ex; ⟨⟨fd, a.mono h, b⟩, G.kp⟩
theorem Fk.mk' {x qual : Str} {params : Arguments} {body : List Stmt} {scope : Scope} {N : List Str} (F : ∃ fd, FunD K x qual params body scope [] [] f fd) (S : FnScope N ps scope)
    (hb : ∀ (kV doc pm : Value) (an : Option Addr) (cdv ct : Value) (us : List Value), us.length = ps.length → bindArgs (PySem.W.fnOf x qual params body scope .none kV doc pm an cdv ct) ⟨us, []⟩ = pure (ps.zip us))
    (len : ∀ vs H Q E, sp vs H Q E → vs.length = ps.length)
    (hbody : ∀ (cdv : Value) (A : Around) (outer : List Env) (s : Shared) (H : Hp) (vs : List V) (Q : VK) (E : XK), Room k (A.deeper (envOfC qual scope s.heap.objs.size f cdv)) → sp vs H Q E →
      ∃ t, PSs (cxOf (L2.CX P w) P w K mg base N qual scope f cdv A outer s H E) body t ∧ t { nx := fun _ H' => Q .non H', rt := Q } (start N vs) H) : Fk P w K mg base (k + 1) f ps sp := by
  obtain ⟨fd, F⟩ := F
  exact ⟨⟨fd, F.ok (CX := L2.CX P w) S len hbody, F.bindsN hb⟩, F.kp⟩
end
section
variable {X : Cx} {k : Nat} {f C : Addr} {ps : List Str} {sp : Sp} {E : XK} {x m : Str} {p pos apos : Pos} {e o : Expr} {es : List Expr} {ta : TE} {t : TA}
theorem q_call (G : Fk X.prog X.w X.K X.mg X.base k f ps sp) (hr : Room k X.A) (hm : X.mg x = some (.ref f)) (hx : Passes (L2.CX X.prog X.w) X E) (ha : PA X (e :: es) t) (hg : Gl X x := by rfl)
    (hdb : (x == ("__debug__" : Str)) = false := by decide) (he : starEach (e :: es) X.env = (false, eval e X.env) :: starEach es X.env := by rfl) (hpl : (backTo pos (starEach es X.env)).any (·.1) = false := by rfl) :
    PE X (.Call (.Name x p) (e :: es) [] pos) (tCall sp [] E t) := by
  obtain ⟨fd, F, B⟩ := G.ex
  exact pe_call F hr hg hm G.kp B .nil hx ha hdb he hpl
theorem q_call0 (G : Fk X.prog X.w X.K X.mg X.base k f ps sp) (hr : Room k X.A) (hm : X.mg x = some (.ref f)) (hx : Passes (L2.CX X.prog X.w) X E) (hg : Gl X x := by rfl)
    (hdb : (x == ("__debug__" : Str)) = false := by decide) : PE X (.Call (.Name x p) [] [] pos) (tCall sp [] E tNil) := by
  obtain ⟨fd, F, B⟩ := G.ex
  exact pe_call0 F hr hg hm G.kp B .nil hx hdb
theorem q_callS {E : St → XK} (G : Fk X.prog X.w X.K X.mg X.base k f ps sp) (hr : Room k X.A) (hm : X.mg x = some (.ref f)) (hx : ∀ σ, PassesAt (L2.CX X.prog X.w) X σ (E σ)) (ha : PA X (e :: es) t) (hg : Gl X x := by rfl)
    (hdb : (x == ("__debug__" : Str)) = false := by decide) (he : starEach (e :: es) X.env = (false, eval e X.env) :: starEach es X.env := by rfl) (hpl : (backTo pos (starEach es X.env)).any (·.1) = false := by rfl) :
    PE X (.Call (.Name x p) (e :: es) [] pos) (tCallS sp E t) := by
  obtain ⟨fd, F, B⟩ := G.ex
  exact pe_callS F hr hg hm G.kp B hx ha hdb he hpl
end
section
variable {X : Cx} {k : Nat} {f C : Addr} {ps : List Str} {sp : Sp} {E : XK} {x m : Str} {p pos apos : Pos} {e o : Expr} {es : List Expr} {ta : TE} {t : TA}
theorem q_meth {pl : Sem Bool} (he : PE X o ta) (c : Cls X.K C) (hm : Meth X.K C m f) (G : Fk X.prog X.w X.K X.mg X.base k f ps sp) (hr : Room k X.A) (hx : Passes (L2.CX X.prog X.w) X E) (ha : PA X (e :: es) t)
    (hst : starEach (e :: es) X.env = (false, eval e X.env) :: starEach es X.env := by rfl) (hpl : (backTo pos (starEach es X.env)).any (·.1) = false := by rfl)
    (ht : eval (.Call (.Attribute o m apos) (e :: es) [] pos) X.env = (do
      let ov ← eval o X.env
      standAt apos.atName
      let (f, first) ← holding [ov] (getMethod ov m pl)
      callWith pos f first (backTo pos (starEach (e :: es) X.env)) (backToKw pos (keywordEach [] X.env))) := by rfl) :
    PE X (.Call (.Attribute o m apos) (e :: es) [] pos) (tMeth C m sp [] E ta t) := by
  obtain ⟨fd, F, B⟩ := G.ex
  exact pe_meth he c hm F hr B .nil hx ha hst hpl ht
theorem q_meth0 {pl : Sem Bool} (he : PE X o ta) (c : Cls X.K C) (hm : Meth X.K C m f) (G : Fk X.prog X.w X.K X.mg X.base k f ps sp) (hr : Room k X.A) (hx : Passes (L2.CX X.prog X.w) X E)
    (ht : eval (.Call (.Attribute o m apos) [] [] pos) X.env = (do
      let ov ← eval o X.env
      standAt apos.atName
      let (f, first) ← holding [ov] (getMethod ov m pl)
      callWith pos f first (backTo pos (starEach [] X.env)) (backToKw pos (keywordEach [] X.env))) := by rfl) :
    PE X (.Call (.Attribute o m apos) [] [] pos) (tMeth C m sp [] E ta tNil) := by
  obtain ⟨fd, F, B⟩ := G.ex
  exact pe_meth0 he c hm F hr B .nil hx ht
/-- within a try: what is raised is wished for at the slots -/
def tMethSl (C : Addr) (m : Str) (sp : Sp) (E : L2.St → XK) (ta : TE) (t : TA) : TE := fun σ H Q => ta σ H fun x H1 => ∃ a dx fs, x = .ref a ∧ H1 a = some (.ins C dx fs) ∧ fs.lookup m = none ∧
  t σ H1 fun vs H2 => sp (x :: vs) H2 Q (E σ)
theorem q_methS {E : L2.St → XK} {pl : Sem Bool} (he : PE X o ta) (c : Cls X.K C) (hm : Meth X.K C m f) (G : Fk X.prog X.w X.K X.mg X.base k f ps sp) (hr : Room k X.A) (hx : ∀ σ, PassesAt (L2.CX X.prog X.w) X σ (E σ)) (ha : PA X (e :: es) t)
    (hst : starEach (e :: es) X.env = (false, eval e X.env) :: starEach es X.env := by rfl) (hpl : (backTo pos (starEach es X.env)).any (·.1) = false := by rfl)
    (ht : eval (.Call (.Attribute o m apos) (e :: es) [] pos) X.env = (do
      let ov ← eval o X.env
      standAt apos.atName
      let (f, first) ← holding [ov] (getMethod ov m pl)
      callWith pos f first (backTo pos (starEach (e :: es) X.env)) (backToKw pos (keywordEach [] X.env))) := by rfl) :
    PE X (.Call (.Attribute o m apos) (e :: es) [] pos) (tMethSl C m sp E ta t) := by
  obtain ⟨fd, F, B⟩ := G.ex
  refine ⟨fun pins s σ H Q I h => ?_⟩
  refine PySem.W.methodCall_KW (pl := pl) (thn (he.run pins s σ H _ I h) fun u s1 ⟨x, H1, I1, rx, a, dx, fs, ex, ea, l, q⟩ => ?_) ht
  subst ex
  obtain rfl : u = Value.ref a := rx
  refine getmeth_ok I1 ea c hm l ?_
  exact PySem.W.callWith_K (first := [.ref a]) (h₀ := X.base) I.ok.mod.kin hm.kp (thn (ha.run pos pins s1 σ H1 _ I1 q) fun us s2 ⟨vs, H2, I2, r, q2⟩ => ⟨I2.kIn, run_fnS (us := .ref a :: us) (vs := .ref a :: vs) F hr B (hx σ) I2 (.cons rfl r) q2⟩) hst hpl
theorem q_meth0S {E : L2.St → XK} {pl : Sem Bool} (he : PE X o ta) (c : Cls X.K C) (hm : Meth X.K C m f) (G : Fk X.prog X.w X.K X.mg X.base k f ps sp) (hr : Room k X.A) (hx : ∀ σ, PassesAt (L2.CX X.prog X.w) X σ (E σ))
    (ht : eval (.Call (.Attribute o m apos) [] [] pos) X.env = (do
      let ov ← eval o X.env
      standAt apos.atName
      let (f, first) ← holding [ov] (getMethod ov m pl)
      callWith pos f first (backTo pos (starEach [] X.env)) (backToKw pos (keywordEach [] X.env))) := by rfl) :
    PE X (.Call (.Attribute o m apos) [] [] pos) (tMethSl C m sp E ta tNil) := by
  obtain ⟨fd, F, B⟩ := G.ex
  refine ⟨fun pins s σ H Q I h => ?_⟩
  refine PySem.W.methodCall_KW (pl := pl) (thn (he.run pins s σ H _ I h) fun u s1 ⟨x, H1, I1, rx, a, dx, fs, ex, ea, l, q⟩ => ?_) ht
  subst ex
  obtain rfl : u = Value.ref a := rx
  refine getmeth_ok I1 ea c hm l ?_
  exact PySem.W.callWith_K0 (first := [.ref a]) I1.kIn hm.kp (run_fnS (us := [.ref a]) (vs := [.ref a]) F hr B (hx σ) I1 (.cons rfl .nil) q)
theorem q_make (M : Mk X.K C f) (G : Fk X.prog X.w X.K X.mg X.base k f ps sp) (hr : Room (k + 1) X.A) (hm : X.mg x = some (.ref C)) (hx : Passes (L2.CX X.prog X.w) X E) (ha : PA X (e :: es) t) (hg : Gl X x := by rfl)
    (hdb : (x == ("__debug__" : Str)) = false := by decide) (he : starEach (e :: es) X.env = (false, eval e X.env) :: starEach es X.env := by rfl) (hpl : (backTo pos (starEach es X.env)).any (·.1) = false := by rfl) :
    PE X (.Call (.Name x p) (e :: es) [] pos) (tMake C sp [] E t) := by
  obtain ⟨fd, F, B⟩ := G.ex
  exact pe_make M F hr hg hm B .nil hx ha hdb he hpl
theorem q_make0 (M : Mk X.K C f) (G : Fk X.prog X.w X.K X.mg X.base k f ps sp) (hr : Room (k + 1) X.A) (hm : X.mg x = some (.ref C)) (hx : Passes (L2.CX X.prog X.w) X E) (hg : Gl X x := by rfl)
    (hdb : (x == ("__debug__" : Str)) = false := by decide) : PE X (.Call (.Name x p) [] [] pos) (tMake C sp [] E tNil) := by
  obtain ⟨fd, F, B⟩ := G.ex
  exact pe_make0 M F hr hg hm B .nil hx hdb
end
/-- what a callee raises leaves the def's own body -/
theorem passX {P : Program} {w : World} {K : PySem.W.Frag} {mg : Str → Option Value} {base : Heap} {N : List Str} {qual : Str} {scope : Scope} {f : Addr} {cd : Value} {A : Around} {outer : List Env} {s : Shared} {H : Hp} {E : XK} :
    Passes (L2.CX P w) (cxOf (L2.CX P w) P w K mg base N qual scope f cd A outer s H E) E := passes_call (takes_of rfl rfl rfl rfl) fun _ _ _ _ h => h
theorem takesX {P : Program} {w : World} {K : PySem.W.Frag} {mg : Str → Option Value} {base : Heap} {N : List Str} {qual : Str} {scope : Scope} {f : Addr} {cd : Value} {A : Around} {outer : List Env} {s : Shared} {H : Hp} {E : XK} :
    Takes (cxOf (L2.CX P w) P w K mg base N qual scope f cd A outer s H E) (fun cls d _ H => E cls d H) := takes_of rfl rfl rfl rfl
/-- a global int -/
theorem q_int {X : Cx} {x : Str} {i : Int} {pos : Pos} (hm : ∃ t, X.mg x = some (.int i t)) (hg : Gl X x := by rfl) (hd : (x == ("__debug__" : Str)) = false := by decide) : PE X (.Name x pos) (tC (.int i)) := by
  obtain ⟨t, e⟩ := hm
  exact pe_glob hg e ⟨_, rfl⟩ hd
theorem q_txt {X : Cx} {x z : Str} {pos : Pos} (hm : ∃ t, X.mg x = some (.str z t)) (hg : Gl X x := by rfl) (hd : (x == ("__debug__" : Str)) = false := by decide) : PE X (.Name x pos) (tC (.str z)) := by
  obtain ⟨t, e⟩ := hm
  exact pe_glob hg e ⟨_, rfl⟩ hd

/-! ### operators of several kinds -/
def rIsX : R2 := fun x y H Q => (y = .non ∨ ∃ b, y = .bl b) ∧ Q (.bl (decide (x = y))) H
def rNotX : R2 := fun x y H Q => (y = .non ∨ ∃ b, y = .bl b) ∧ Q (.bl (!decide (x = y))) H
theorem op_isX {X : Cx} : OpR X (compareOp .Is) rIsX := by
  intro pins s σ H x y v u Q I rx ry h
  obtain ⟨rfl | ⟨b, rfl⟩, q⟩ := h
  · exact op_isN pins s σ H x .non v u Q I rx ry ⟨rfl, q⟩
  · cases x with
    | bl a =>
      refine op_isBl pins s σ H (.bl a) (.bl b) v u Q I rx ry ⟨a, b, rfl, rfl, ?_⟩
      have e : decide (V.bl a = V.bl b) = decide (a = b) := by by_cases h : a = b <;> simp [h]
      rw [e] at q
      exact q
    | non => cases (show u = Value.bool b from ry); cases (show v = Value.none from rx); exact wpAny_pure (fin_bl I q rfl)
    | ref a => cases (show u = Value.bool b from ry); cases (show v = Value.ref a from rx); exact wpAny_pure (fin_bl I q rfl)
    | ty n => cases (show u = Value.bool b from ry); cases (show v = Value.type n from rx); exact wpAny_pure (fin_bl I q rfl)
    | int i => cases (show u = Value.bool b from ry); obtain ⟨t, rfl⟩ := rx; exact wpAny_pure (fin_bl I q rfl)
    | str i => cases (show u = Value.bool b from ry); obtain ⟨t, rfl⟩ := rx; exact wpAny_pure (fin_bl I q rfl)
    | byt i => cases (show u = Value.bool b from ry); obtain ⟨t, rfl⟩ := rx; exact wpAny_pure (fin_bl I q rfl)
    | flt i => cases (show u = Value.bool b from ry); obtain ⟨t, rfl⟩ := rx; exact wpAny_pure (fin_bl I q rfl)
/-- +: ints, texts, lists, tuples -/
def rAddU (K : PySem.W.Frag) : R2 := fun x y H Q => rI0 (fun i j => .int (i + j)) x y H Q ∨ (∃ i j, x = .str i ∧ y = .str j ∧ i.length + j.length ≤ sizeLine ∧ Q (.str (i ++ j)) H) ∨ rCat x y H Q ∨ rCatA K x y H Q
theorem op_addU {X : Cx} : OpR X (binaryOp .Add) (rAddU X.K) := op_add.or (op_add_str.or (op_cat.or op_catA))
/-- *: ints of any size that matters, a list times an int -/
def rMulU : R2 := fun x y H Q => rI CMulX (fun i j => .int (i * j)) x y H Q ∨ rRep x y H Q
theorem op_mulU {X : Cx} : OpR X (binaryOp .Mult) rMulU := op_mulX.or op_rep
abbrev rSubI : R2 := rI0 fun i j => .int (i - j)
abbrev rDivI : R2 := rI CDivW fun i j => .int (i / j)
abbrev rModI : R2 := rI (fun _ j => 0 < j) fun i j => .int (i % j)
abbrev rShlI : R2 := rI CPow fun i j => .int (i * 2 ^ j.toNat)
abbrev rPowI : R2 := rI CPow fun i j => .int (i ^ j.toNat)
/-- ==: scalars, or data at any depth -/
def rEqU (K : PySem.W.Frag) : R2 := fun x y H Q => rEq x y H Q ∨ rEqD K x y H Q
def rNeU (K : PySem.W.Frag) : R2 := fun x y H Q => rNe x y H Q ∨ rNeD K x y H Q
theorem op_eqU {X : Cx} (hu : X.A.units + 64 < cLine) : OpR X (compareOp .Eq) (rEqU X.K) := op_eq.or (op_eqD hu)
theorem op_neU {X : Cx} (hu : X.A.units + 64 < cLine) : OpR X (compareOp .NotEq) (rNeU X.K) := op_ne.or (op_neD hu)

/-! ### slots -/
inductive StartAt : List Str → List V → St → Prop where
  | val {x : Str} {N : List Str} {v : V} {vs : List V} {σ : St} : StartAt N vs σ → StartAt (x :: N) (v :: vs) (some v :: σ)
  | non {x : Str} {N : List Str} {σ : St} : StartAt N [] σ → StartAt (x :: N) [] (none :: σ)
  | nil : StartAt [] [] []
theorem StartAt.eq : ∀ {N : List Str} {vs : List V} {σ : St}, StartAt N vs σ → start N vs = σ
  | _, _, _, .val h => by
    have e := h.eq
    unfold start at e ⊢
    simp only [List.map_cons, List.length_cons, List.cons_append, Nat.add_sub_add_right, e]
  | _, _, _, .non h => by
    have e := h.eq
    unfold start at e ⊢
    simp only [List.map_nil, List.length_cons, List.length_nil, Nat.sub_zero, List.nil_append, List.replicate_succ] at e ⊢
    rw [e]
  | _, _, _, .nil => rfl
theorem z_start {N : List Str} {vs : List V} {σ : St} {t : TS} {D : Ends} {H : Hp} (e : StartAt N vs σ) (k : t D σ H) : t D (start N vs) H := by rw [e.eq]; exact k
inductive SetAt : St → Nat → Option V → St → Prop where
  | zero {a v : Option V} {l : St} : SetAt (a :: l) 0 v (v :: l)
  | succ {a v : Option V} {l l' : St} {n : Nat} : SetAt l n v l' → SetAt (a :: l) (n + 1) v (a :: l')
theorem SetAt.eq : ∀ {l l' : St} {n : Nat} {v : Option V}, SetAt l n v l' → l.set n v = l'
  | _, _, _, _, .zero => rfl
  | _, _, _, _, .succ h => by rw [List.set_cons_succ, h.eq]
section
variable {K : PySem.W.Frag} {σ σ' : St} {H : Hp} {Q : VK} {ta tb tc te : TE} {v x y : V} {D : Ends} {ts tu : TS} {TQ : Bool → Hp → Prop} {tt tt2 : TT} {GQ : St → Hp → Prop}
/-! ### statements -/
theorem z_seq (h : ts { D with nx := tu D } σ H) : tSeq ts tu D σ H := h
theorem z_next (h : D.nx σ H) : tNext D σ H := h
theorem z_drop (h : te σ H fun _ H1 => D.nx σ H1) : tDrop te D σ H := h
theorem z_ret (h : te σ H D.rt) : tRet te D σ H := h
theorem z_retN (h : D.rt .non H) : tRetN D σ H := h
theorem z_asg {g : TG} (h : te σ H fun x H1 => g x σ H1 D.nx) : tAsg te g D σ H := h
theorem z_name {i : Nat} (e : SetAt σ i (some v) σ') (k : GQ σ' H) : gName i v σ H GQ := by
  show GQ (σ.set i (some v)) H
  rw [e.eq]; exact k
theorem z_if (h : tt σ H fun b H1 => if b = true then ts D σ H1 else tu D σ H1) : tIfS tt ts tu D σ H := h
theorem z_par {i j : Nat} {t : TA} (h : t σ H fun vs H1 => ∃ v w, vs = [v, w] ∧ D.nx ((σ.set i (some v)).set j (some w)) H1) : tPar i j t D σ H := h
theorem z_par2 {i j : Nat} {v w : V} {σ1 σ2 : St} (e1 : SetAt σ i (some v) σ1) (e2 : SetAt σ1 j (some w) σ2) (k : D.nx σ2 H) : ∃ v' w', [v, w] = [v', w'] ∧ D.nx ((σ.set i (some v')).set j (some w')) H :=
  ⟨v, w, rfl, by rw [e1.eq, e2.eq]; exact k⟩
/-! ### tests -/
theorem z_tTest (h : te σ H fun x H' => ∃ k, x = .bl k ∧ TQ k H') : tTest te σ H TQ := h
theorem z_tB (h : te σ H fun x H' => ∃ k, x = .bl k ∧ TQ k H') : tB te σ H TQ := h
theorem z_bl {b : Bool} (h : TQ b H) : ∃ k, V.bl b = .bl k ∧ TQ k H := ⟨b, rfl, h⟩
theorem z_and (h : tt σ H fun c H1 => if c = true then tt2 σ H1 TQ else TQ false H1) : tAnd tt tt2 σ H TQ := h
theorem z_or (h : tt σ H fun c H1 => if c = true then TQ true H1 else tt2 σ H1 TQ) : tOr tt tt2 σ H TQ := h
theorem z_not (h : tt σ H fun c H1 => TQ (!c) H1) : tNot tt σ H TQ := h
theorem z_ite {c A B : Prop} [Decidable c] (h1 : c → A) (h2 : ¬ c → B) : if decide c = true then A else B := by
  by_cases h : c
  · rw [if_pos (decide_eq_true h)]; exact h1 h
  · rw [if_neg (by rw [decide_eq_false h]; exact Bool.false_ne_true)]; exact h2 h
theorem z_iteN {c A B : Prop} [Decidable c] (h1 : ¬ c → A) (h2 : c → B) : if (!decide c) = true then A else B := by
  by_cases h : c
  · rw [decide_eq_true h]; exact iteF (h2 h)
  · rw [decide_eq_false h]; exact iteT (h1 h)
theorem z_yes {c A B : Prop} [Decidable c] (hc : c) (h : A) : if decide c = true then A else B := by rw [if_pos (decide_eq_true hc)]; exact h
theorem z_no {c A B : Prop} [Decidable c] (hc : ¬ c) (h : B) : if decide c = true then A else B := by rw [decide_eq_false hc]; exact iteF h
theorem z_yesN {c A B : Prop} [Decidable c] (hc : ¬ c) (h : A) : if (!decide c) = true then A else B := by rw [decide_eq_false hc]; exact iteT h
theorem z_noN {c A B : Prop} [Decidable c] (hc : c) (h : B) : if (!decide c) = true then A else B := by rw [decide_eq_true hc]; exact iteF h
theorem z_nnot {b : Bool} {A B : Prop} (h : if b = true then B else A) : if (!b) = true then A else B := by
  cases b
  · exact iteT (by simpa using h)
  · exact iteF (by simpa using h)
/-! ### expressions -/
theorem z_var {i : Nat} (e : σ[i]? = some (some v)) (k : Q v H) : tVar i σ H Q := ⟨v, e, k⟩
theorem z_c (k : Q v H) : tC v σ H Q := k
theorem z_op {r : R2} (h : ta σ H fun x H1 => tb σ H1 fun y H2 => r x y H2 Q) : tOp r ta tb σ H Q := h
theorem z_un {r : V → Hp → VK → Prop} (h : ta σ H fun x H1 => r x H1 Q) : tUn r ta σ H Q := h
theorem z_andV (h : ta σ H fun x H1 => ∃ c, x = .bl c ∧ if c = true then tb σ H1 Q else Q (.bl false) H1) : tAndV ta tb σ H Q := h
theorem z_orV (h : ta σ H fun x H1 => ∃ c, x = .bl c ∧ if c = true then Q (.bl true) H1 else tb σ H1 Q) : tOrV ta tb σ H Q := h
theorem z_notV (h : ta σ H fun x H1 => ∃ c, x = .bl c ∧ Q (.bl (!c)) H1) : tNotV ta σ H Q := h
theorem z_ifE (h : tt σ H fun c H1 => if c = true then ta σ H1 Q else tb σ H1 Q) : tIf tt ta tb σ H Q := h
theorem z_blQ {b : Bool} {R : Bool → Prop} (h : R b) : ∃ c, V.bl b = .bl c ∧ R c := ⟨b, rfl, h⟩
theorem z_cons {tr : TA} {AQ : List V → Hp → Prop} (h : ta σ H fun x H1 => tr σ H1 fun xs H2 => AQ (x :: xs) H2) : tCons ta tr σ H AQ := h
theorem z_nil {AQ : List V → Hp → Prop} (h : AQ [] H) : tNil σ H AQ := h
theorem z_tup {t : TA} (h : t σ H fun xs H1 => xs.length ≤ sizeLine ∧ ∀ p, H1 p = none → Q (.ref p) (upd H1 p (.tup xs))) : tTup t σ H Q := h
theorem z_lst {t : TA} (h : t σ H fun xs H1 => xs.length ≤ sizeLine ∧ ∀ p, H1 p = none → Q (.ref p) (upd H1 p (.lst xs))) : tLst t σ H Q := h
theorem z_call {sp : Sp} {E : XK} {t : TA} (h : t σ H fun vs H1 => sp (vs ++ []) H1 Q E) : tCall sp [] E t σ H Q := h
theorem z_callS {sp : Sp} {E : St → XK} {t : TA} (h : t σ H fun vs H1 => sp vs H1 Q (E σ)) : tCallS sp E t σ H Q := h
theorem z_cb {r : List V → Hp → VK → Prop} {t : TA} (h : t σ H fun vs H1 => r vs H1 Q) : tCB r t σ H Q := h
theorem z_chain {r r' : R2} (h : ta σ H fun x H1 => tb σ H1 fun y H2 => r x y H2 fun z H3 => ∃ k, z = .bl k ∧ (if k = true then tc σ H3 fun z' H4 => r' y z' H4 Q else Q (.bl false) H3)) : tChain r r' ta tb tc σ H Q := h
/-! ### operators on values -/
theorem z_I0 {g : Int → Int → V} {i j : Int} (k : Q (g i j) H) : rI0 g (.int i) (.int j) H Q := ⟨i, j, rfl, rfl, k⟩
theorem z_I {C : Int → Int → Prop} {g : Int → Int → V} {i j : Int} (c : C i j) (k : Q (g i j) H) : rI C g (.int i) (.int j) H Q := ⟨i, j, rfl, rfl, c, k⟩
theorem z_U {g : Int → V} {i : Int} (k : Q (g i) H) : rU g (.int i) H Q := ⟨i, rfl, k⟩
theorem z_addI {i j : Int} (k : Q (.int (i + j)) H) : rAddU K (.int i) (.int j) H Q := .inl ⟨i, j, rfl, rfl, k⟩
theorem z_addS {i j : Str} (c : i.length + j.length ≤ sizeLine) (k : Q (.str (i ++ j)) H) : rAddU K (.str i) (.str j) H Q := .inr (.inl ⟨i, j, rfl, rfl, c, k⟩)
theorem z_addL {a b : Addr} {xs zs : List V} (h1 : H a = some (.lst xs)) (h2 : H b = some (.lst zs)) (c : xs.length + zs.length ≤ sizeLine) (k : ∀ p, H p = none → Q (.ref p) (upd H p (.lst (xs ++ zs)))) : rAddU K (.ref a) (.ref b) H Q :=
  .inr (.inr (.inl ⟨a, b, xs, zs, rfl, rfl, h1, h2, c, k⟩))
theorem z_mulI {i j : Int} (c : CMulX i j) (k : Q (.int (i * j)) H) : rMulU (.int i) (.int j) H Q := .inl ⟨i, j, rfl, rfl, c, k⟩
theorem z_mulL {l : Addr} {n : Int} {xs : List V} (h : H l = some (.lst xs)) (c1 : 0 ≤ n) (c2 : n < 2 ^ 62) (c3 : xs.length * n.toNat ≤ sizeLine) (k : ∀ p, H p = none → Q (.ref p) (upd H p (.lst (List.replicate n.toNat xs).flatten))) : rMulU (.ref l) (.int n) H Q :=
  .inr ⟨l, n, xs, rfl, rfl, h, by omega, by omega, c3, k⟩
theorem z_eqI {i j : Int} (k : Q (.bl (decide (i = j))) H) : rEqU K (.int i) (.int j) H Q := .inl ⟨rfl, by
  have e : decide (V.int i = V.int j) = decide (i = j) := by by_cases h : i = j <;> simp [h]
  rw [e]; exact k⟩
theorem z_neI {i j : Int} (k : Q (.bl (!decide (i = j))) H) : rNeU K (.int i) (.int j) H Q := .inl ⟨rfl, by
  have e : decide (V.int i = V.int j) = decide (i = j) := by by_cases h : i = j <;> simp [h]
  rw [e]; exact k⟩
theorem z_eqS {i j : Str} (k : Q (.bl (decide (i = j))) H) : rEqU K (.str i) (.str j) H Q := .inl ⟨rfl, by
  have e : decide (V.str i = V.str j) = decide (i = j) := by by_cases h : i = j <;> simp [h]
  rw [e]; exact k⟩
theorem z_neS {i j : Str} (k : Q (.bl (!decide (i = j))) H) : rNeU K (.str i) (.str j) H Q := .inl ⟨rfl, by
  have e : decide (V.str i = V.str j) = decide (i = j) := by by_cases h : i = j <;> simp [h]
  rw [e]; exact k⟩
theorem z_isN (k : Q (.bl (decide (x = .non))) H) : rIsX x .non H Q := ⟨.inl rfl, k⟩
theorem z_isB {b : Bool} (k : Q (.bl (decide (x = .bl b))) H) : rIsX x (.bl b) H Q := ⟨.inr ⟨b, rfl⟩, k⟩
end
end Mur
/-! Data in the heap (Dv) that stays; isinstance by kinds. -/
namespace Mur
open PySem hiding start
open PySem.Spec L2
open PyProof.Rows hiding St
theorem _root_.L2.Same.new {H : Hp} {p : Addr} {o : HO} (h : H p = none) : Same H (upd H p o) := fun a u e => by
  rw [upd_ne (ne_of_none e h)]; exact e
theorem _root_.L2.Same.set {H H' : Hp} {p : Addr} {o : HO} (e : Same H H') (h : H p = none) : Same H (upd H' p o) := fun a u q => by
  rw [upd_ne (ne_of_none q h)]; exact e a u q
theorem _root_.L2.Same.tup {K : PySem.W.Frag} {H H' : Hp} {a : Addr} {xs : List V} (e : Same H H') (h : SqT K H a xs) : SqT K H' a xs := by
  rcases h with (h | ⟨o, h⟩) | h
  · exact .inl (.inl (e _ _ h))
  · exact .inl (.inr ⟨o, e _ _ h⟩)
  · exact .inr h
mutual
inductive Dv (H : Hp) : V → PyData → Prop
  | non : Dv H .non .none
  | bl (b : Bool) : Dv H (.bl b) (.bool b)
  | int (i : Int) : Dv H (.int i) (.int i)
  | str (x : Str) : Dv H (.str x) (.str x)
  | lst {a : Addr} {xs : List V} {ds : List PyData} : H a = some (.lst xs) → DvAll H xs ds → Dv H (.ref a) (.list ds)
  | tup {a : Addr} {xs : List V} {ds : List PyData} : H a = some (.tup xs) → DvAll H xs ds → Dv H (.ref a) (.tuple ds)
inductive DvAll (H : Hp) : List V → List PyData → Prop
  | nil : DvAll H [] []
  | cons {v : V} {vs : List V} {d : PyData} {ds : List PyData} : Dv H v d → DvAll H vs ds → DvAll H (v :: vs) (d :: ds)
end
mutual
theorem dv_same {H H' : Hp} (e : Same H H') : ∀ {d : PyData} {v : V}, Dv H v d → Dv H' v d
  | _, _, .non => .non
  | _, _, .bl b => .bl b
  | _, _, .int i => .int i
  | _, _, .str x => .str x
  | _, _, .lst h a => .lst (e _ _ h) (dvAll_same e a)
  | _, _, .tup h a => .tup (e _ _ h) (dvAll_same e a)
theorem dvAll_same {H H' : Hp} (e : Same H H') : ∀ {ds : List PyData} {vs : List V}, DvAll H vs ds → DvAll H' vs ds
  | _, _, .nil => .nil
  | _, _, .cons h t => .cons (dv_same e h) (dvAll_same e t)
end
mutual
theorem Dv.dp {K : PySem.W.Frag} {H : Hp} : ∀ {d : PyData} {v : V}, Dv H v d → Dp K H v d
  | _, _, .non => .non
  | _, _, .bl b => .bl b
  | _, _, .int i => .int i
  | _, _, .str x => .str x
  | _, _, .lst h a => .lst (SqL.of h) (DvAll.dp a)
  | _, _, .tup h a => .tup (SqT.of h) (DvAll.dp a)
theorem DvAll.dp {K : PySem.W.Frag} {H : Hp} : ∀ {ds : List PyData} {vs : List V}, DvAll H vs ds → DpAll K H vs ds
  | _, _, .nil => .nil
  | _, _, .cons h t => .cons (Dv.dp h) (DvAll.dp t)
end
theorem DvAll.len {H : Hp} : ∀ {ds : List PyData} {vs : List V}, DvAll H vs ds → vs.length = ds.length
  | _, _, .nil => rfl
  | _, _, .cons _ t => by simp [t.len]
theorem DvAll.get {H : Hp} : ∀ {ds : List PyData} {vs : List V} {i : Nat} {v : V}, DvAll H vs ds → vs[i]? = some v → ∃ d, ds[i]? = some d ∧ Dv H v d
  | _, _, _, _, .nil, e => by simp at e
  | _, _, 0, _, .cons h _, e => by simp at e; subst e; exact ⟨_, rfl, h⟩
  | _, _, i + 1, v, .cons _ t, e => by
    obtain ⟨d, h1, h2⟩ := DvAll.get (i := i) (v := v) t (by simpa using e)
    exact ⟨d, by simpa using h1, h2⟩
theorem DvAll.ints {H : Hp} : ∀ ns : List Int, DvAll H (ns.map V.int) (ns.map PyData.int)
  | [] => .nil
  | n :: ns => .cons (.int n) (DvAll.ints ns)
/-! how deep data are: scalars 0 -/
mutual
def dpt : PyData → Nat
  | .list ds => dptAll ds + 1
  | .tuple ds => dptAll ds + 1
  | _ => 0
def dptAll : List PyData → Nat
  | [] => 0
  | d :: ds => max (dpt d) (dptAll ds)
end
theorem dpt_mem : ∀ {ds : List PyData} {i : Nat} {d : PyData}, ds[i]? = some d → dpt d ≤ dptAll ds
  | [], i, d, e => by simp at e
  | x :: ds, 0, d, e => by simp at e; subst e; simp only [dptAll]; omega
  | x :: ds, i + 1, d, e => by
    have := dpt_mem (ds := ds) (i := i) (d := d) (by simpa using e)
    simp only [dptAll]; omega
/-! ### isinstance -/
def tyD : PyData → String
  | .none => "NoneType"
  | .bool _ => "bool"
  | .int _ => "int"
  | .str _ => "str"
  | .list _ => "list"
  | .tuple _ => "tuple"
  | _ => ""
theorem Dv.ty {K : PySem.W.Frag} {H : Hp} {d : PyData} {v : V} (h : Dv H v d) : TyX K H v (.type (tyD d)) := by
  cases h with
  | non => exact .base .non
  | bl b => exact .base (.bl b)
  | int i => exact .base (.int i)
  | str x => exact .base (.str x)
  | lst h _ => exact .base (.lst h)
  | tup h _ => exact .base (.tup h)
theorem z_isi {K : PySem.W.Frag} {H : Hp} {Q : VK} {x : V} {a n : String} {b : Bool} (ty : TyX K H x (.type a)) (e : kitB a n = some b) (k : Q (.bl b) H) : rIsi K [x, .ty n] H Q := ⟨x, .ty n, .type a, .type n, b, rfl, .ty n, ty, kit_ty e, k⟩
section
variable {K : PySem.W.Frag} {H : Hp} {Q : VK} {n : String} {a : Addr} {xs : List V}
theorem z_isI {i : Int} (b : Bool) (e : kitB "int" n = some b) (k : Q (.bl b) H) : rIsi K [.int i, .ty n] H Q := z_isi (.base (.int i)) e k
theorem z_isNn (b : Bool) (e : kitB "NoneType" n = some b) (k : Q (.bl b) H) : rIsi K [.non, .ty n] H Q := z_isi (.base .non) e k
theorem z_isBl {i : Bool} (b : Bool) (e : kitB "bool" n = some b) (k : Q (.bl b) H) : rIsi K [.bl i, .ty n] H Q := z_isi (.base (.bl i)) e k
theorem z_isS {i : Str} (b : Bool) (e : kitB "str" n = some b) (k : Q (.bl b) H) : rIsi K [.str i, .ty n] H Q := z_isi (.base (.str i)) e k
theorem z_isT (b : Bool) (h : H a = some (.tup xs)) (e : kitB "tuple" n = some b) (k : Q (.bl b) H) : rIsi K [.ref a, .ty n] H Q := z_isi (.base (.tup h)) e k
theorem z_isL (b : Bool) (h : H a = some (.lst xs)) (e : kitB "list" n = some b) (k : Q (.bl b) H) : rIsi K [.ref a, .ty n] H Q := z_isi (.base (.lst h)) e k
end
/-! ### len, items, lists -/
def rLenU (K : PySem.W.Frag) : List V → Hp → VK → Prop := fun xs H Q => ∃ x n, xs = [x] ∧ LenV K x H n ∧ Q (.int n) H
theorem call_lenU {X : Cx} : CallR X (.builtin "len") (rLenU X.K) := call_len
def rLstU (K : PySem.W.Frag) : List V → Hp → VK → Prop := fun xs H Q => ∃ p ys, xs = [.ref p] ∧ (SqL K H p ys ∨ SqT K H p ys) ∧ ∀ l, H l = none → Q (.ref l) (upd H l (.lst ys))
theorem call_listU {X : Cx} : CallR X (.type "list") (rLstU X.K) := call_list_of
def rTupU (K : PySem.W.Frag) : List V → Hp → VK → Prop := fun xs H Q => ∃ p ys, xs = [.ref p] ∧ ((SqL K H p ys ∧ ∀ l, H l = none → Q (.ref l) (upd H l (.tup ys))) ∨ (SqT K H p ys ∧ Q (.ref p) H))
theorem call_tupleU {X : Cx} : CallR X (.type "tuple") (rTupU X.K) := call_tuple_of
def rAbs : List V → Hp → VK → Prop := fun xs H Q => ∃ i, xs = [.int i] ∧ Q (.int (if i < 0 then -i else i)) H
theorem call_absU {X : Cx} : CallR X (.builtin "abs") rAbs := call_abs
def rInt1 : List V → Hp → VK → Prop := fun xs H Q => (∃ i, xs = [.int i] ∧ Q (.int i) H) ∨ ∃ k, xs = [.bl k] ∧ Q (.int (if k then 1 else 0)) H
theorem call_intU {X : Cx} : CallR X (.type "int") rInt1 := call_int1
def rGetL (K : PySem.W.Frag) : R2 := fun x y H Q => ∃ p xs, ∃ n : Nat, ∃ v, x = .ref p ∧ y = .int (n : Int) ∧ SqL K H p xs ∧ xs[n]? = some v ∧ Q v H
theorem get_list {X : Cx} : PGet X (rGetL X.K) := by
  intro pins s σ H x y v u Q I rx ry h
  obtain ⟨p, xs, n, z, rfl, rfl, hp, e, q⟩ := h
  cases (show v = Value.ref p from rx)
  obtain ⟨t, rfl⟩ := ry
  obtain ⟨its, rv, pl, hz⟩ := I.list hp
  obtain ⟨w', hw, rw'⟩ := rv.get e
  have hn := line63
  have hl := (List.getElem?_eq_some_iff.mp e).1
  exact wpAny_getItem_list pl.isList (by omega) (by omega) (by simpa using hw) ⟨z, H, I, rw', q⟩
/-! the rules with the written part named, so that they fit within a comprehension's block, too -/
section
variable {X : Cx} {e o b value : Expr} {es : List Expr} {ta te to tb tv : TE} {t : TA} {f : Str} {pos pos' apos cpos : Pos}
theorem k_fld (K : PySem.W.Frag) (he : PE X e ta) (hb : attributeBase e f X.env (eval e X.env) = eval e X.env) (hK : X.K = K := by rfl) : PE X (.Attribute e f pos) (tFld K ta f) := by subst hK; exact pe_fld he hb
theorem k_sfld (K : PySem.W.Frag) (ha : PE X o ta) (hv : PE X value tv) (hs : swapsWith value (some (.Attribute o f pos')) pos.line X.env = pure false) (hK : X.K = K := by rfl) : PS X (.Assign [.Attribute o f pos'] value pos) (sFld K ta tv f) := by subst hK; exact ps_fld ha hv hs
theorem k_ix (K : PySem.W.Frag) (ha : PE X o ta) (hb : PE X b tb) (hs : PlainIx b) (hK : X.K = K := by rfl) : PE X (.Subscript o b pos) (tOp (rIx K) ta tb) := by subst hK; exact pe_ix ix_seq ha hb hs
theorem k_eq (K : PySem.W.Frag) (hu : X.A.units + 64 < cLine) (hK : X.K = K := by rfl) : OpR X (compareOp .Eq) (rEqU K) := by subst hK; exact op_eqU hu
theorem k_ne (K : PySem.W.Frag) (hu : X.A.units + 64 < cLine) (hK : X.K = K := by rfl) : OpR X (compareOp .NotEq) (rNeU K) := by subst hK; exact op_neU hu
theorem k_add (K : PySem.W.Frag) (hK : X.K = K := by rfl) : OpR X (binaryOp .Add) (rAddU K) := by subst hK; exact op_addU
theorem k_isi (K : PySem.W.Frag) (hK : X.K = K := by rfl) : CallR X (.builtin "isinstance") (rIsi K) := by subst hK; exact call_isi
theorem k_len (K : PySem.W.Frag) (hK : X.K = K := by rfl) : CallR X (.builtin "len") (rLenU K) := by subst hK; exact call_lenU
theorem k_list (K : PySem.W.Frag) (hK : X.K = K := by rfl) : CallR X (.type "list") (rLstU K) := by subst hK; exact call_listU
theorem k_tuple (K : PySem.W.Frag) (hK : X.K = K := by rfl) : CallR X (.type "tuple") (rTupU K) := by subst hK; exact call_tupleU
theorem k_sum (K : PySem.W.Frag) (hc : X.calm = true) (hK : X.K = K := by rfl) : CallR X (.builtin "sum") (rSum K) := by subst hK; exact cr_sum hc
theorem k_max (K : PySem.W.Frag) (hc : X.calm = true) (hK : X.K = K := by rfl) : CallR X (.builtin "max") (rMax K) := by subst hK; exact cr_max hc
theorem k_min (K : PySem.W.Frag) (hc : X.calm = true) (hK : X.K = K := by rfl) : CallR X (.builtin "min") (rMin K) := by subst hK; exact cr_min hc
theorem k_in (K : PySem.W.Frag) (hK : X.K = K := by rfl) : OpR X (compareOp .In) (rIn K false) := by subst hK; exact op_in_seq
theorem k_notin (K : PySem.W.Frag) (hK : X.K = K := by rfl) : OpR X (compareOp .NotIn) (rIn K true) := by subst hK; exact op_notIn_seq
theorem k_sll (K : PySem.W.Frag) (hK : X.K = K := by rfl) : SlR X (rSlL K) := by subst hK; exact sl_list
theorem k_slt (K : PySem.W.Frag) (hK : X.K = K := by rfl) : SlR X (rSlA K) := by subst hK; exact sl_tupA
theorem k_get (K : PySem.W.Frag) (hK : X.K = K := by rfl) : PGet X (rGetL K) := by subst hK; exact get_list
theorem k_pil {tg l : Expr} {tl : TE} (K : PySem.W.Frag) (hl : PE X l tl) (hK : X.K = K := by rfl) : PI X tg l (iList K tl) := by subst hK; exact pi_list hl
theorem k_pit {tg l : Expr} {tl : TE} (K : PySem.W.Frag) (hl : PE X l tl) (hK : X.K = K := by rfl) : PI X tg l (iTup K tl) := by subst hK; exact pi_tup hl
theorem k_pgt {k : Nat} {tt : TGs} {n : Nat} (K : PySem.W.Frag) (hc : X.calm = true) (h : PGs X es tt) (hK : X.K = K := by rfl)
    (hn : (assignEach es X.env).length = n := by rfl) (hst : (assignEach es X.env).findIdx? (·.1) = none := by rfl) : PG X (.Tuple es k pos) (gTup K n tt) := by subst hK; exact pg_tup hc h hn hst
theorem k_enum {p tpos : Pos} {elts : List Expr} {kk : Nat} (K : PySem.W.Frag) (hg : Gl X "enumerate") (hm : X.mg "enumerate" = none) (ha : PA X [e] t) (hK : X.K = K := by rfl) (hs : starEach [e] X.env = [(false, eval e X.env)] := by rfl) :
    PI X (.Tuple elts kk tpos) (.Call (.Name "enumerate" p) [e] [] pos) (iEnum K t) := by subst hK; exact pi_enum hg hm ha hs
theorem k_zip {e2 : Expr} {p tpos : Pos} {elts : List Expr} {kk : Nat} (K : PySem.W.Frag) (hg : Gl X "zip") (hm : X.mg "zip" = none) (ha : PA X [e, e2] t) (hK : X.K = K := by rfl)
    (hs : starEach [e, e2] X.env = (false, eval e X.env) :: starEach [e2] X.env := by rfl) (hpl : (backTo pos (starEach [e2] X.env)).any (·.1) = false := by rfl) :
    PI X (.Tuple elts kk tpos) (.Call (.Name "zip" p) [e, e2] [] pos) (RZ.iZipA K t) := by subst hK; exact RZ.pi_zipA hg hm ha hs hpl
theorem k_bm {T id : String} {name : Str} {r : V → List V → Hp → VK → Prop} (K : PySem.W.Frag) (pa : PlainAttrs T) (slot : Slot T name id) (hty : typeOf (.builtin id) = pure (.type "method_descriptor")) (hm : MtR X id r) (ho : PE X o to) (ha : PA X (e :: es) t) (hK : X.K = K := by rfl)
    (hbase : attributeBase o name X.env (eval o X.env) = eval o X.env := by rfl)
    (hfew : ((backTo cpos (starEach (e :: es) X.env)).all (fun x => !x.1) && (backToKw cpos (keywordEach [] X.env)).all (fun x => x.1.isSome)
      && decide ((e :: es).length + ([] : List Keyword).length + (if ([] : List Keyword).isEmpty then 0 else 1) < 30)) = true := by rfl)
    (hline : (apos.endLine == cpos.line) = true := by rfl) (hs : starEach (e :: es) X.env = (false, eval e X.env) :: starEach es X.env := by rfl) (hplain : (backTo cpos (starEach es X.env)).any (·.1) = false := by rfl) :
    PE X (.Call (.Attribute o name apos) (e :: es) [] cpos) (tBM K T r to t) := by subst hK; exact pe_bm pa slot hty hm ho ha hbase hfew hline hs hplain
theorem k_bm0 {T id : String} {name : Str} {r : V → List V → Hp → VK → Prop} (K : PySem.W.Frag) (pa : PlainAttrs T) (slot : Slot T name id) (hty : typeOf (.builtin id) = pure (.type "method_descriptor")) (hm : MtR X id r) (ho : PE X o to) (hK : X.K = K := by rfl)
    (hbase : attributeBase o name X.env (eval o X.env) = eval o X.env := by rfl) (hline : (apos.endLine == cpos.line) = true := by rfl) : PE X (.Call (.Attribute o name apos) [] [] cpos) (tBM0 K T r to) := by subst hK; exact pe_bm0 pa slot hty hm ho hbase hline
end
section
variable {K : PySem.W.Frag} {H : Hp} {Q : VK} {a l : Addr} {xs : List V} {v y : V} {i : Int}
theorem z_lenL (h : SqL K H a xs) (k : Q (.int (xs.length : Nat)) H) : rLenU K [.ref a] H Q := ⟨.ref a, _, rfl, .inl ⟨_, h, rfl⟩, k⟩
theorem z_lenT (h : SqT K H a xs) (k : Q (.int (xs.length : Nat)) H) : rLenU K [.ref a] H Q := ⟨.ref a, _, rfl, .inr ⟨_, h, rfl⟩, k⟩
theorem z_lenS {z : Str} (h : z.length ≤ sizeLine) (k : Q (.int (z.length : Nat)) H) : rLenU K [.str z] H Q := ⟨.str z, _, rfl, ⟨h, rfl⟩, k⟩
theorem z_listL (h : SqL K H a xs) (k : ∀ l, H l = none → Q (.ref l) (upd H l (.lst xs))) : rLstU K [.ref a] H Q := ⟨a, xs, rfl, .inl h, k⟩
theorem z_listT (h : SqT K H a xs) (k : ∀ l, H l = none → Q (.ref l) (upd H l (.lst xs))) : rLstU K [.ref a] H Q := ⟨a, xs, rfl, .inr h, k⟩
theorem z_tupL (h : SqL K H a xs) (k : ∀ l, H l = none → Q (.ref l) (upd H l (.tup xs))) : rTupU K [.ref a] H Q := ⟨a, xs, rfl, .inl ⟨h, k⟩⟩
theorem z_new {o : HO} (k : ∀ p H2, Same H H2 → H p = none → H2 p = some o → Q (.ref p) H2) : ∀ p, H p = none → Q (.ref p) (upd H p o) := fun p hp => k p _ (Same.new hp) hp upd_same
theorem z_newD {o : HO} {c : Prop} (hc : c) (k : ∀ p H2, Same H H2 → H p = none → H2 p = some o → Q (.ref p) H2) : c ∧ ∀ p, H p = none → Q (.ref p) (upd H p o) := ⟨hc, z_new k⟩
theorem new_same {p : Addr} {o : HO} {H2 : Hp} (hp : H p = none) (e : upd H p o = H2) : Same H H2 := e ▸ Same.new hp
theorem new_at {p : Addr} {o : HO} {H2 : Hp} (e : upd H p o = H2) : H2 p = some o := e ▸ upd_same
theorem same_to {H H' : Hp} {a : Addr} {o : HO} (s : Same H H') (h : H a = some o) : H' a = some o := s _ _ h
theorem z_abs (k : Q (.int (if i < 0 then -i else i)) H) : rAbs [.int i] H Q := ⟨i, rfl, k⟩
theorem z_int1 (k : Q (.int i) H) : rInt1 [.int i] H Q := .inl ⟨i, rfl, k⟩
theorem z_intB {b : Bool} (k : Q (.int (if b then 1 else 0)) H) : rInt1 [.bl b] H Q := .inr ⟨b, rfl, k⟩
theorem z_ixL (h : SqL K H a xs) (e : atI xs i = some v) (k : Q v H) : rIx K (.ref a) (.int i) H Q := .inl ⟨a, xs, i, v, rfl, rfl, h, e, k⟩
theorem z_ixT (h : SqT K H a xs) (e : atI xs i = some v) (k : Q v H) : rIx K (.ref a) (.int i) H Q := .inr (.inl ⟨a, xs, i, v, rfl, rfl, h, e, k⟩)
theorem z_tyL {B : Prop} (h : SqL K H a xs) (k : B) : tyV K "list" (.ref a) H ∧ B := ⟨.inl ⟨rfl, _, h⟩, k⟩
theorem z_bm {T : String} {r : V → List V → Hp → VK → Prop} {to : TE} {t : TA} {σ : L2.St} (h : to σ H fun x H1 => tyV K T x H1 ∧ t σ H1 fun xs H2 => r x xs H2 Q) : tBM K T r to t σ H Q := h
theorem z_bm0 {T : String} {r : V → List V → Hp → VK → Prop} {to : TE} {σ : L2.St} (h : to σ H fun x H1 => tyV K T x H1 ∧ r x [] H1 Q) : tBM0 K T r to σ H Q := h
theorem z_app (h : H l = some (.lst xs)) (c : xs.length < sizeLine) (k : Q .non (upd H l (.lst (xs ++ [y])))) : rAppend (.ref l) [y] H Q := ⟨l, xs, y, rfl, rfl, h, c, k⟩
theorem atI_of {n : Nat} (h : xs[n]? = some v) (e : i = (n : Int)) : atI xs i = some v := by rw [e]; exact atI_nat h
/-! a method's call, an attribute -/
def rDNi (y : V) : V → Hp → VK → Prop := fun x H Q => ∃ a o, x = .ref a ∧ DGet H a y o ∧ Q (.bl (!o.isSome)) H
def rDIn (y : V) : V → Hp → VK → Prop := fun x H Q => ∃ a o, x = .ref a ∧ DGet H a y o ∧ Q (.bl o.isSome) H
def rDGt (x : V) : V → Hp → VK → Prop := fun y H Q => ∃ a v, x = .ref a ∧ DGet H a y (some v) ∧ Q v H
def rDPt (v x : V) : V → Hp → (Hp → Prop) → Prop := fun y H R => ∃ a H4, x = .ref a ∧ DPut H a y v H4 ∧ R H4
theorem z_dnotin {ty td : TE} {σ : L2.St} (h : ty σ H fun y H1 => td σ H1 fun x H2 => rDNi y x H2 Q) : tDNotIn ty td σ H Q := h
theorem z_din {ty td : TE} {σ : L2.St} (h : ty σ H fun y H1 => td σ H1 fun x H2 => rDIn y x H2 Q) : tDIn ty td σ H Q := h
theorem z_dget {ty td : TE} {σ : L2.St} (h : td σ H fun x H1 => ty σ H1 fun y H2 => rDGt x y H2 Q) : tDGet td ty σ H Q := h
theorem z_dput {ty td tv : TE} {σ : L2.St} {D : Ends} (h : tv σ H fun v H1 => td σ H1 fun x H2 => ty σ H2 fun y H3 => rDPt v x y H3 (D.nx σ)) : sDPut td ty tv D σ H := h
theorem z_dniR {o : Option V} (h : DGet H a y o) (k : Q (.bl (!o.isSome)) H) : rDNi y (.ref a) H Q := ⟨a, o, rfl, h, k⟩
theorem z_dinR {o : Option V} (h : DGet H a y o) (k : Q (.bl o.isSome) H) : rDIn y (.ref a) H Q := ⟨a, o, rfl, h, k⟩
theorem z_dgetR (h : DGet H a y (some v)) (k : Q v H) : rDGt (.ref a) y H Q := ⟨a, v, rfl, h, k⟩
theorem z_dputR {H4 : Hp} {R : Hp → Prop} (h : DPut H a y v H4) (k : R H4) : rDPt v (.ref a) y H R := ⟨a, H4, rfl, h, k⟩
def rFld (K : PySem.W.Frag) (f : Str) : V → Hp → VK → Prop := fun x H Q => ∃ a C dx fs v, x = .ref a ∧ H a = some (.ins C dx fs) ∧ Cls K C ∧ NoAttr K C f ∧ fs.lookup f = some v ∧ Q v H
theorem z_fld {ta : TE} {σ : L2.St} {f : Str} (h : ta σ H fun x H1 => rFld K f x H1 Q) : tFld K ta f σ H Q := h
theorem z_fldR {C dx : Addr} {fs : List (Str × V)} {f : Str} (h : H a = some (.ins C dx fs)) (c : Cls K C) (n : NoAttr K C f) (e : fs.lookup f = some v) (k : Q v H) : rFld K f (.ref a) H Q := ⟨a, C, dx, fs, v, rfl, h, c, n, e, k⟩
def rSfl (K : PySem.W.Frag) (f : Str) (y : V) : V → Hp → (Hp → Prop) → Prop := fun x H R => ∃ a C dx fs, x = .ref a ∧ H a = some (.ins C dx fs) ∧ Cls K C ∧ NoAttr K C f ∧ fs.length < 1000 ∧ R (upd H a (.ins C dx (putF f y fs)))
theorem z_sfld {ta tv : TE} {σ : L2.St} {D : Ends} {f : Str} (h : tv σ H fun y H1 => ta σ H1 fun x H2 => rSfl K f y x H2 (D.nx σ)) : sFld K ta tv f D σ H := h
theorem z_sfldR {C dx : Addr} {fs : List (Str × V)} {f : Str} {y : V} {R : Hp → Prop} {fs' : List (Str × V)} (h : H a = some (.ins C dx fs)) (c : Cls K C) (n : NoAttr K C f) (l : fs.length < 1000) (e : putF f y fs = fs') (k : R (upd H a (.ins C dx fs'))) :
    rSfl K f y (.ref a) H R := ⟨a, C, dx, fs, rfl, h, c, n, l, by rw [e]; exact k⟩
theorem z_dnewT {σ : L2.St} (h : ∀ p, H p = none → Q (.ref p) (upd H p (.dT []))) : tDNewT σ H Q := h
theorem z_dnewK {σ : L2.St} (h : ∀ p, H p = none → Q (.ref p) (upd H p (.dK []))) : tDNewK σ H Q := h
theorem z_meth {C : Addr} {m : Str} {sp : Sp} {E : XK} {ta : TE} {t : TA} {σ : L2.St} (h : ta σ H fun x H1 => ∃ a dx fs, x = .ref a ∧ H1 a = some (.ins C dx fs) ∧ fs.lookup m = none ∧ t σ H1 fun vs H2 => sp (x :: (vs ++ [])) H2 Q E) : tMeth C m sp [] E ta t σ H Q := h
theorem z_methR {C dx : Addr} {m : Str} {fs : List (Str × V)} {R : Prop} (h : H a = some (.ins C dx fs)) (e : fs.lookup m = none) (k : R) : ∃ a' dx fs, V.ref a = .ref a' ∧ H a' = some (.ins C dx fs) ∧ fs.lookup m = none ∧ R := ⟨a, dx, fs, rfl, h, e, k⟩
end
/-! loops, tuple targets -/
section
variable {K : PySem.W.Frag} {σ σ' : L2.St} {H : Hp} {D : Ends} {GQ : L2.St → Hp → Prop}
theorem z_for {wi : TI} {g : TG} {tb : TS} (h : wi σ H fun J H1 => ∃ W : Nat → Nat → L2.St → Hp → Prop, (∃ m, W 0 m σ H1) ∧ ∀ i m σ H, W i m σ H →
  (J.stop i H ∧ D.nx σ H) ∨ (J.go i H ∧ ∃ N : L2.St → Hp → Prop, (∀ σ' H', N σ' H' → ∃ m', m' < m ∧ W (i + 1) m' σ' H') ∧ ∀ x H', J.yld i H x H' → g x σ H' fun σ2 H2 => tb { D with nx := N, ct := N, bk := D.nx } σ2 H2)) : tFor wi g tb D σ H := h
theorem z_zipA {ta : TA} {R : It → Hp → Prop} (h : ta σ H fun vs H1 => ∃ a b xs ys, vs = [.ref a, .ref b] ∧ ((SqL K H1 a xs ∧ SqL K H1 b ys ∧ R (Itz K a b) H1) ∨ (SqT K H1 a xs ∧ SqT K H1 b ys ∧ R (RZ.ItzT K a b) H1))) : RZ.iZipA K ta σ H R := h
theorem z_enum {ta : TA} {R : It → Hp → Prop} (h : ta σ H fun vs H1 => ∃ a xs, vs = [.ref a] ∧ SqL K H1 a xs ∧ R (Ite K a) H1) : iEnum K ta σ H R := h
theorem z_iList {tl : TE} {R : It → Hp → Prop} (h : tl σ H fun x H1 => ∃ a, x = .ref a ∧ (∃ xs, SqL K H1 a xs) ∧ R (Itl K a) H1) : iList K tl σ H R := h
theorem z_iTup {tl : TE} {R : It → Hp → Prop} (h : tl σ H fun x H1 => ∃ a, x = .ref a ∧ (∃ xs, SqT K H1 a xs) ∧ R (Itt K a) H1) : iTup K tl σ H R := h
theorem z_rng1 {ta : TA} {R : It → Hp → Prop} (h : ta σ H fun vs H1 => ∃ j : Int, vs = [.int j] ∧ -(2 ^ 62) ≤ j ∧ j < 2 ^ 62 ∧ R (Itr 0 j.toNat) H1) : iRng1 ta σ H R := h
theorem z_rng2 {ta : TA} {R : It → Hp → Prop} (h : ta σ H fun vs H1 => ∃ i j : Int, vs = [.int i, .int j] ∧ (-(2 ^ 62) ≤ i ∧ i < 2 ^ 62 ∧ -(2 ^ 62) ≤ j ∧ j < 2 ^ 62) ∧ R (Itr i (j - i).toNat) H1) : iRng2 ta σ H R := h
theorem z_gTup {n : Nat} {t : TGs} {a : Addr} {xs : List V} (h : SqT K H a xs) (e : xs.length = n) (k : t xs σ H GQ) : gTup K n t (.ref a) σ H GQ := ⟨a, xs, rfl, h, e, k⟩
theorem z_gCons {t : TG} {u : TGs} {v : V} {r : List V} (k : t v σ H fun σ' H' => u r σ' H' GQ) : gCons t u (v :: r) σ H GQ := ⟨v, r, rfl, k⟩
theorem z_gNil (k : GQ σ H) : gNil [] σ H GQ := ⟨rfl, k⟩
theorem z_lc {wi : TI} {g : TG} {tt : TT} {te : TE} {vs : List Nat} {Q : VK} (h : wi σ H fun J H1 => ∀ D, H1 D = none → ∃ W : Nat → Nat → Hp → Prop, (∃ m, W 0 m (upd H1 D (.lst []))) ∧ ∀ i m H, W i m H →
  (J.stop i H ∧ Q (.ref D) H) ∨ (J.go i H ∧ ∃ Nx : Hp → Prop, (∀ H', Nx H' → ∃ m', m' < m ∧ W (i + 1) m' H') ∧ ∀ x H', J.yld i H x H' → g x (wipe σ vs) H' fun σ2 H2 => wipe σ2 vs = wipe σ vs ∧ tt σ2 H2 fun b H3 =>
    if b = true then te σ2 H3 fun y H4 => ∃ acc, H4 D = some (.lst acc) ∧ acc.length < sizeLine ∧ Nx (upd H4 D (.lst (acc ++ [y]))) else Nx H3)) : tLc wi g tt te vs σ H Q := h
theorem z_tyes {TQ : Bool → Hp → Prop} (h : TQ true H) : tYes σ H TQ := h
theorem z_ans {tt : TT} {TQ : Bool → Hp → Prop} (b : Bool) (h : ∀ R : Bool → Hp → Prop, R b H → tt σ H R) (k : TQ b H) : tt σ H TQ := h _ k
theorem z_augS {to ti te : TE} {tget : V → V → Hp → VK → Prop} {tip : TIp} {tset : TSet} (h : to σ H fun o H1 => ti σ H1 fun i H2 => tget o i H2 fun x H3 => te σ H3 fun y H4 => tip x y H4 fun z H5 => tset o i z H5 fun H6 => D.nx σ H6) : tAugS to ti te tget tip tset D σ H := h
theorem z_getL {a : Addr} {xs : List V} {n : Nat} {i : Int} {v : V} {Q : VK} (h : SqL K H a xs) (ei : i = (n : Int)) (e : xs[n]? = some v) (k : Q v H) : rGetL K (.ref a) (.int i) H Q := ⟨a, xs, n, v, rfl, by rw [ei], h, e, k⟩
theorem z_ipI {f : Int → Int → Int} {i j : Int} {Q : VK} (k : Q (.int (f i j)) H) : ipI f (.int i) (.int j) H Q := ⟨i, j, rfl, rfl, k⟩
theorem z_setL {a : Addr} {xs : List V} {n : Nat} {i : Int} {v : V} {R : Hp → Prop} (h : H a = some (.lst xs)) (ei : i = (n : Int)) (l : n < xs.length) (k : R (upd H a (.lst (xs.set n v)))) : rSetL (.ref a) (.int i) v H R :=
  ⟨a, xs, i, n, rfl, rfl, h, by rw [ei]; unfold ixN; rw [if_pos (by omega), if_pos (by omega)]; simp, k⟩
theorem z_gSub {to ti : TE} {t : TSet} {v : V} (h : to σ H fun o H1 => ti σ H1 fun i H2 => t o i v H2 fun H3 => GQ σ H3) : gSub to ti t v σ H GQ := h
theorem z_max {a : Addr} {ns : List Int} {Q : VK} (h : SqL K H a (ns.map V.int)) (l : 0 < ns.length) (k : ∀ m, m ∈ ns → (∀ y, y ∈ ns → y ≤ m) → Q (.int m) H) : rMax K [.ref a] H Q := ⟨a, ns, rfl, h, l, k⟩
theorem z_min {a : Addr} {ns : List Int} {Q : VK} (h : SqL K H a (ns.map V.int)) (l : 0 < ns.length) (k : ∀ m, m ∈ ns → (∀ y, y ∈ ns → m ≤ y) → Q (.int m) H) : rMin K [.ref a] H Q := ⟨a, ns, rfl, h, l, k⟩
theorem map_set {α : Type} (f : Nat → α) (n k : Nat) (v : α) : ((List.range n).map f).set k v = (List.range n).map fun j => if j = k then v else f j := by
  apply List.ext_getElem?
  intro i
  rw [List.getElem?_set, List.getElem?_map, List.getElem?_map, List.length_map, List.length_range]
  by_cases h : k = i
  · subst h
    by_cases hi : k < n
    · simp [hi]
    · simp [hi]
  · have h' : ¬ i = k := fun z => h z.symm
    by_cases hi : i < n <;> simp [h, h', hi]
theorem z_ntrue {A B : Prop} (k : B) : if (!true) = true then A else B := iteF k
theorem z_nfalse {A B : Prop} (k : A) : if (!false) = true then A else B := iteT k
end
/-! slices, dicts read with a word for what is not there, len(set(..)), locks, a try -/
section
variable {X : Cx} {a : Expr} {ta : TE} {p p2 q pos : Pos}
theorem k_lset (K : PySem.W.Frag) (hg : Gl X "len") (hm : X.mg "len" = none) (hg2 : Gl X "set") (hm2 : X.mg "set" = none) (ha : PE X a ta) (hc : X.calm = true := by rfl) (hK : X.K = K := by rfl)
    (na : starEach [a] X.env = (false, eval a X.env) :: starEach [] X.env := by rfl) : PE X (.Call (.Name "len" p) [.Call (.Name "set" p2) [a] [] q] [] pos) (RZ.tLenSetI K ta) := by subst hK; exact RZ.pe_lenSetI hg hm hg2 hm2 ha hc na
end
section
variable {K : PySem.W.Frag} {σ : L2.St} {H : Hp} {Q : VK}
def rLset (K : PySem.W.Frag) : V → Hp → VK → Prop := fun x H Q => ∃ (l : Addr) (ns : List Int), x = .ref l ∧ SqL K H l (ns.map V.int) ∧ ns.Nodup ∧ ns.length ≤ 4000 ∧ Q (.int (ns.length : Nat)) H
theorem z_lset {ta : TE} (h : ta σ H fun x H1 => rLset K x H1 Q) : RZ.tLenSetI K ta σ H Q := h
theorem z_lsetR {l : Addr} {ns : List Int} (h : SqL K H l (ns.map V.int)) (nd : ns.Nodup) (len : ns.length ≤ 4000) (k : Q (.int (ns.length : Nat)) H) : rLset K (.ref l) H Q := ⟨l, ns, rfl, h, nd, len, k⟩
theorem z_sl {r : V → Option Int → Option Int → Hp → VK → Prop} {te : TE} {tl th : TO} (h : te σ H fun x H1 => tl σ H1 fun l H2 => th σ H2 fun u H3 => r x l u H3 Q) : tSl r te tl th σ H Q := h
theorem z_noP {OQ : Option Int → Hp → Prop} (h : OQ none H) : tNoPart σ H OQ := h
theorem z_part {t : TE} {OQ : Option Int → Hp → Prop} (h : t σ H fun x H1 => ∃ i, x = .int i ∧ OQ (some i) H1) : tPart t σ H OQ := h
theorem z_slL {a : Addr} {xs ys : List V} {lo hi : Option Int} (h : SqL K H a xs) (e : cutV xs lo hi = ys) (k : ∀ p, H p = none → Q (.ref p) (upd H p (.lst ys))) : rSlL K (.ref a) lo hi H Q := ⟨a, xs, rfl, h, by rw [e]; exact k⟩
theorem cut_to (xs : List V) (n : Nat) : cutV xs none (some (n : Int)) = xs.take n := by
  unfold cutV
  rw [HT.sIx_none, HT.sIx_nat, List.drop_zero, Nat.sub_zero]
  rcases Nat.le_total n xs.length with h | h
  · rw [Nat.min_eq_left h]
  · rw [Nat.min_eq_right h, List.take_of_length_le (Nat.le_refl _), List.take_of_length_le h]
theorem cut_from (xs : List V) (n : Nat) : cutV xs (some (n : Int)) none = xs.drop n := by
  unfold cutV
  rw [HT.sIx_none, HT.sIx_nat]
  rcases Nat.le_total n xs.length with h | h
  · rw [Nat.min_eq_left h, List.take_of_length_le (by simp)]
  · rw [Nat.min_eq_right h, List.drop_eq_nil_of_le (Nat.le_refl _), List.drop_eq_nil_of_le h]; simp
theorem z_dget2 {td ty tx : TE} (h : td σ H fun x H1 => ∃ a, x = .ref a ∧ IsD H1 a ∧ ty σ H1 fun y H2 => tx σ H2 fun z H3 => ∃ o, DGet H3 a y o ∧ Q (o.getD z) H3) : tDGet2 td ty tx σ H Q := h
theorem z_isD {a : Addr} {R : Addr → Prop} (h : IsD H a) (k : R a) : ∃ a', V.ref a = .ref a' ∧ IsD H a' ∧ R a' := ⟨a, rfl, h, k⟩
theorem z_lockE {t : TE} {d : Addr} {u : HO} (h : H d = some u) (m : Mut (some u)) (k : ∀ od, t σ (upd H d (.frz od u)) fun v H' => H' d = some (.frz od u) ∧ Q v (upd H' d u)) : tLockE t σ H Q := ⟨d, u, h, m, k⟩
theorem z_lock {t : TS} {D : Ends} {d : Addr} {u : HO} (h : H d = some u) (m : Mut (some u))
    (k : ∀ od, t ⟨fun σ' H' => H' d = some (.frz od u) ∧ D.nx σ' (upd H' d u), fun v H' => H' d = some (.frz od u) ∧ D.rt v (upd H' d u), fun σ' H' => H' d = some (.frz od u) ∧ D.bk σ' (upd H' d u), fun σ' H' => H' d = some (.frz od u) ∧ D.ct σ' (upd H' d u)⟩ σ (upd H d (.frz od u))) : tLock t D σ H := ⟨d, u, h, m, k⟩
theorem z_keys {td : TE} {R : It → Hp → Prop} (h : td σ H fun x H1 => ∃ d o, x = .ref d ∧ ((∃ kvs, H1 d = some (.frz o (.dK kvs)) ∧ R (Itk d o kvs) H1) ∨ ∃ kvs, H1 d = some (.frz o (.dT kvs)) ∧ R (Itkt d o kvs) H1)) : iKeys td σ H R := h
theorem z_someI {n : Int} {R : Int → Prop} (k : R n) : ∃ i, V.int n = .int i ∧ R i := ⟨n, rfl, k⟩
theorem z_someB {n : Bool} {R : Bool → Prop} (k : R n) : ∃ i, V.bl n = .bl i ∧ R i := ⟨n, rfl, k⟩
theorem z_make {C : Addr} {sp : Sp} {E : XK} {t : TA} (h : t σ H fun vs H1 => ∀ x dx, H1 x = none → H1 dx = none → dx ≠ x → sp (.ref x :: (vs ++ [])) (upd (upd H1 dx (.own x)) x (.ins C dx [])) (fun v H2 => v = .non ∧ Q (.ref x) H2) E) : tMake C sp [] E t σ H Q := h
theorem z_methSl {C : Addr} {m : Str} {sp : Sp} {E : L2.St → XK} {ta : TE} {t : TA} (h : ta σ H fun x H1 => ∃ a dx fs, x = .ref a ∧ H1 a = some (.ins C dx fs) ∧ fs.lookup m = none ∧ t σ H1 fun vs H2 => sp (x :: vs) H2 Q (E σ)) : tMethSl C m sp E ta t σ H Q := h
end
/-! equal data -/
theorem z_eqSame {K : PySem.W.Frag} {H : Hp} {Q : VK} {x y : V} {d : PyData} (hx : Dv H x d) (hy : Dv H y d) (hs : SeqAt.shaped d = true) (he : PyData.eqv d d = true) (k : Q (.bl true) H) : rEqU K x y H Q := .inr ⟨d, d, hx.dp, hy.dp, hs, hs, by rw [he]; exact k⟩
theorem z_neSame {K : PySem.W.Frag} {H : Hp} {Q : VK} {x y : V} {d : PyData} (hx : Dv H x d) (hy : Dv H y d) (hs : SeqAt.shaped d = true) (he : PyData.eqv d d = true) (k : Q (.bl false) H) : rNeU K x y H Q := .inr ⟨d, d, hx.dp, hy.dp, hs, hs, by rw [he]; exact k⟩
theorem mulS {i j : Int} (h1 : i.natAbs < 2 ^ 64) (h2 : j.natAbs < 2 ^ 64) : CMulX i j := mulx_ok h1 h2 (by decide)
theorem sz1000 {n : Nat} (h : n ≤ 100000) : n ≤ sizeLine := Nat.le_trans h (by decide)
theorem szlt {n : Nat} (h : n < 100000) : n < sizeLine := Nat.lt_of_lt_of_le h (by decide)
/-! a def that is never reached, recursion by levels -/
theorem Fk.no {P : Program} {w : World} {K : PySem.W.Frag} {mg : Str → Option Value} {base : Heap} {ps : List Str} {x qual : Str} {params : Arguments} {body : List Stmt} {scope : Scope} {f : Addr} {sp : Sp} (F : ∃ fd, FunD K x qual params body scope [] [] f fd)
    (hb : ∀ (kV doc pm : Value) (an : Option Addr) (cdv ct : Value) (us : List Value), us.length = ps.length → bindArgs (PySem.W.fnOf x qual params body scope .none kV doc pm an cdv ct) ⟨us, []⟩ = pure (ps.zip us)) (hn : ∀ vs H Q E, ¬ sp vs H Q E) :
    Fk P w K mg base 0 f ps sp := by
  obtain ⟨fd, F⟩ := F
  exact ⟨⟨fd, ⟨fun vs H Q E h => absurd h (hn vs H Q E), fun _ _ _ _ _ _ _ _ _ _ _ _ _ h => absurd h (hn _ _ _ _)⟩, F.bindsN hb⟩, F.kp⟩
end Mur
/-! Pictures, plain mathematics. -/
namespace Mur
open PySem hiding start
open PySem.Spec L2
open PyProof.Rows hiding St
inductive Pic where
  | p (c : Int)
  | q (a b c d : Pic)
  deriving DecidableEq
namespace Pic
def depth : Pic → Nat
  | .p _ => 0
  | .q a b c d => 1 + max (max a.depth b.depth) (max c.depth d.depth)
def parts : Pic → List Pic
  | .p _ => []
  | .q a b c d => [a, b, c, d]
/-- four pictures as quarters -/
def mk (a b c d : Pic) : Pic := if a = b ∧ b = c ∧ c = d ∧ a.depth = 0 then a else .q a b c d
/-- how many cells of the colour k at its own depth -/
def cnt : Pic → Int → Int
  | .p c, k => if k = c then 1 else 0
  | .q a b c d, k =>
    let m := max (max a.depth b.depth) (max c.depth d.depth)
    cnt a k * 4 ^ (m - a.depth) + cnt b k * 4 ^ (m - b.depth) + cnt c k * 4 ^ (m - c.depth) + cnt d k * 4 ^ (m - d.depth)
def sums (P : Pic) : List Int := (List.range 10).map fun k : Nat => P.cnt ((k : Nat) : Int)
def ok : Pic → Prop
  | .p c => 0 ≤ c ∧ c ≤ 9
  | .q a b c d => (Pic.q a b c d).depth ≤ 12 ∧ ¬ (a = b ∧ b = c ∧ c = d ∧ a.depth = 0)
end Pic
/-- the number of a picture in the store -/
def ix (ps : List Pic) (P : Pic) : Nat := ps.idxOf P
def nodeOf (ps : List Pic) : Pic → List Int
  | .p c => [c]
  | .q a b c d => [(ix ps a : Nat), (ix ps b : Nat), (ix ps c : Nat), (ix ps d : Nat)]
def PartsIn (ps : List Pic) (P : Pic) : Prop := ∀ Q ∈ P.parts, Q ∈ ps
structure PInv (ps : List Pic) : Prop where
  nd : ps.Nodup
  cl : ∀ P ∈ ps, PartsIn ps P
  ok : ∀ P ∈ ps, P.ok
theorem ix_lt {ps : List Pic} {P : Pic} (h : P ∈ ps) : ix ps P < ps.length := List.idxOf_lt_length_of_mem h
theorem ix_get {ps : List Pic} {P : Pic} (h : P ∈ ps) : ps[ix ps P]? = some P := by
  rw [List.getElem?_eq_getElem (ix_lt h)]
  exact congrArg some (List.getElem_idxOf (ix_lt h))
theorem ix_inj {ps : List Pic} {P Q : Pic} (hp : P ∈ ps) (hq : Q ∈ ps) (e : ix ps P = ix ps Q) : P = Q := by
  have a := ix_get hp
  rw [e, ix_get hq] at a
  exact (Option.some.inj a).symm
theorem ix_app {ps qs : List Pic} {P : Pic} (h : P ∈ ps) : ix (ps ++ qs) P = ix ps P := by
  unfold ix; rw [List.idxOf_append, if_pos h]
theorem ix_new {ps : List Pic} {P : Pic} (h : P ∉ ps) : ix (ps ++ [P]) P = ps.length := by
  unfold ix; rw [List.idxOf_append, if_neg h]; simp
theorem ix_of {ps : List Pic} (nd : ps.Nodup) {i : Nat} {P : Pic} (h : ps[i]? = some P) : ix ps P = i := by
  have hm : P ∈ ps := List.mem_of_getElem? h
  have hi : i < ps.length := (List.getElem?_eq_some_iff.mp h).1
  have a := ix_get hm
  exact (List.getElem?_inj (ix_lt hm) nd).mp (a.trans h.symm)
theorem node_app {ps qs : List Pic} {P : Pic} (h : PartsIn ps P) : nodeOf (ps ++ qs) P = nodeOf ps P := by
  cases P with
  | p c => rfl
  | q a b c d => simp only [nodeOf]; rw [ix_app (h a (by simp [Pic.parts])), ix_app (h b (by simp [Pic.parts])), ix_app (h c (by simp [Pic.parts])), ix_app (h d (by simp [Pic.parts]))]
theorem node_inj {ps : List Pic} {P Q : Pic} (hp : PartsIn ps P) (hq : PartsIn ps Q) (e : nodeOf ps P = nodeOf ps Q) : P = Q := by
  cases P with
  | p c => cases Q with
    | p c' => simp [nodeOf] at e; rw [e]
    | q _ _ _ _ => simp [nodeOf] at e
  | q a b c d => cases Q with
    | p c' => simp [nodeOf] at e
    | q a' b' c' d' =>
      simp only [nodeOf, List.cons.injEq, and_true, Int.ofNat_inj] at e
      obtain ⟨e1, e2, e3, e4⟩ := e
      rw [ix_inj (hp a (by simp [Pic.parts])) (hq a' (by simp [Pic.parts])) e1, ix_inj (hp b (by simp [Pic.parts])) (hq b' (by simp [Pic.parts])) e2,
        ix_inj (hp c (by simp [Pic.parts])) (hq c' (by simp [Pic.parts])) e3, ix_inj (hp d (by simp [Pic.parts])) (hq d' (by simp [Pic.parts])) e4]
theorem PartsIn.app {ps qs : List Pic} {P : Pic} (h : PartsIn ps P) : PartsIn (ps ++ qs) P := fun Q hq => List.mem_append_left _ (h Q hq)
theorem PInv.add {ps : List Pic} {P : Pic} (h : PInv ps) (hn : P ∉ ps) (hp : PartsIn ps P) (ho : P.ok) : PInv (ps ++ [P]) where
  nd := by
    rw [List.nodup_append]
    refine ⟨h.nd, by simp, ?_⟩
    intro a ha b hb
    simp at hb
    subst hb
    rintro rfl
    exact hn ha
  cl := fun Q hq => by
    rcases List.mem_append.mp hq with q | q
    · exact (h.cl Q q).app
    · simp at q; subst q; exact hp.app
  ok := fun Q hq => by
    rcases List.mem_append.mp hq with q | q
    · exact h.ok Q q
    · simp at q; subst q; exact ho
theorem mk_parts {ps : List Pic} {a b c d : Pic} (h : PInv ps) (ha : a ∈ ps) (hb : b ∈ ps) (hc : c ∈ ps) (hd : d ∈ ps) : PartsIn ps (Pic.mk a b c d) := by
  unfold Pic.mk
  split
  · exact h.cl a ha
  · intro Q hq
    simp [Pic.parts] at hq
    rcases hq with rfl | rfl | rfl | rfl <;> assumption
theorem depth_zero {P : Pic} (h : P.depth = 0) : ∃ c, P = .p c := by
  cases P with
  | p c => exact ⟨c, rfl⟩
  | q a b c d => simp [Pic.depth] at h
/-! ### the table of what is known -/
abbrev key (l : List Int) : List Key := l.map Sum.inl
theorem key_inj {l m : List Int} (h : key l = key m) : l = m := by
  induction l generalizing m with
  | nil => cases m with
    | nil => rfl
    | cons _ _ => simp [key] at h
  | cons x l ih => cases m with
    | nil => simp [key] at h
    | cons y m =>
      simp only [key, List.map_cons, List.cons.injEq, Sum.inl.injEq] at h
      rw [h.1, ih h.2]
structure KnOk (ps : List Pic) (kvs : List (List Key × V)) : Prop where
  len : kvs.length = ps.length
  val : ∀ P, PartsIn ps P → valV kvs (key (nodeOf ps P)) = if P ∈ ps then some (.int (ix ps P : Nat)) else none
  mem : ∀ k v, valV kvs k = some v → ∃ P ∈ ps, PartsIn ps P ∧ k = key (nodeOf ps P)
theorem node_lt {ps : List Pic} {P : Pic} (h : PartsIn ps P) : ∀ a b c d, P = .q a b c d → ∀ z ∈ nodeOf ps P, z < ps.length := by
  rintro a b c d rfl z hz
  simp [nodeOf] at hz
  have e1 := ix_lt (h a (by simp [Pic.parts]))
  have e2 := ix_lt (h b (by simp [Pic.parts]))
  have e3 := ix_lt (h c (by simp [Pic.parts]))
  have e4 := ix_lt (h d (by simp [Pic.parts]))
  rcases hz with rfl | rfl | rfl | rfl <;> omega
theorem node_has {ps : List Pic} {N P : Pic} (hN : N ∉ ps) (hP : PartsIn (ps ++ [N]) P) (hn : ¬ PartsIn ps P) : ∃ a b c d, P = .q a b c d ∧ (ps.length : Int) ∈ nodeOf (ps ++ [N]) P := by
  cases P with
  | p c => exact absurd (fun Q hq => by simp [Pic.parts] at hq) hn
  | q a b c d =>
    refine ⟨a, b, c, d, rfl, ?_⟩
    have one : ∀ Q ∈ (Pic.q a b c d).parts, Q ∉ ps → ix (ps ++ [N]) Q = ps.length := by
      intro Q hQ hq
      rcases List.mem_append.mp (hP Q hQ) with z | z
      · exact absurd z hq
      · simp at z; subst z; exact ix_new hN
    by_cases h1 : a ∈ ps
    · by_cases h2 : b ∈ ps
      · by_cases h3 : c ∈ ps
        · by_cases h4 : d ∈ ps
          · exact absurd (fun Q hq => by
              simp [Pic.parts] at hq
              rcases hq with rfl | rfl | rfl | rfl <;> assumption) hn
          · simp [nodeOf, one d (by simp [Pic.parts]) h4]
        · simp [nodeOf, one c (by simp [Pic.parts]) h3]
      · simp [nodeOf, one b (by simp [Pic.parts]) h2]
    · simp [nodeOf, one a (by simp [Pic.parts]) h1]
theorem KnOk.add {ps : List Pic} {kvs : List (List Key × V)} {N : Pic} (h : KnOk ps kvs) (I : PInv ps) (hN : N ∉ ps) (hp : PartsIn ps N) : KnOk (ps ++ [N]) (kvs ++ [(key (nodeOf ps N), .int (ps.length : Nat))]) := by
  have hnone : valV kvs (key (nodeOf ps N)) = none := by rw [h.val N hp, if_neg hN]
  refine ⟨by simp [h.len], fun P hP => ?_, fun k v e => ?_⟩
  · rw [valV_snoc _ _ _ _ hnone]
    by_cases hin : PartsIn ps P
    · rw [node_app hin]
      by_cases e : key (nodeOf ps P) = key (nodeOf ps N)
      · have : P = N := node_inj hin hp (key_inj e)
        subst this
        rw [if_pos rfl, if_pos (by simp), ix_new hN]
      · rw [if_neg e, h.val P hin]
        by_cases hm : P ∈ ps
        · rw [if_pos hm, if_pos (by simp [hm]), ix_app hm]
        · have hne : P ≠ N := fun z => e (by rw [z])
          rw [if_neg hm, if_neg (by simp [hm, hne])]
    · obtain ⟨a, b, c, d, e, hl⟩ := node_has hN hP hin
      have hPn : P ∉ ps ++ [N] := by
        intro z
        rcases List.mem_append.mp z with z | z
        · exact hin (I.cl P z)
        · simp at z; subst z; exact hin hp
      rw [if_neg hPn]
      have key_ne : key (nodeOf (ps ++ [N]) P) ≠ key (nodeOf ps N) := by
        intro z
        have z := key_inj z
        rw [z] at hl
        cases N with
        | p c' => subst e; have := congrArg List.length z; simp [nodeOf] at this
        | q a' b' c' d' =>
          have := node_lt hp a' b' c' d' rfl _ hl
          omega
      rw [if_neg key_ne]
      cases q : valV kvs (key (nodeOf (ps ++ [N]) P)) with
      | none => rfl
      | some v =>
        exfalso
        obtain ⟨R, hR, hRp, z⟩ := h.mem _ _ q
        have z := key_inj z
        rw [z] at hl
        cases R with
        | p c' => subst e; have := congrArg List.length z; simp [nodeOf] at this
        | q a' b' c' d' =>
          have := node_lt hRp a' b' c' d' rfl _ hl
          omega
  · rw [valV_snoc _ _ _ _ hnone] at e
    split at e
    · rename_i hk
      exact ⟨N, by simp, hp.app, by rw [node_app hp, hk]⟩
    · obtain ⟨P, h1, h2, h3⟩ := h.mem _ _ e
      exact ⟨P, by simp [h1], h2.app, by rw [node_app h2, h3]⟩
/-! ### counts -/
theorem pow4 (n : Nat) : (0 : Int) < 4 ^ n := Int.pow_pos (by decide)
theorem pow4_add (a b : Nat) : (4 : Int) ^ (a + b) = 4 ^ a * 4 ^ b := Int.pow_add ..
theorem cnt_bd : ∀ (P : Pic) (k : Int), 0 ≤ P.cnt k ∧ P.cnt k ≤ 4 ^ P.depth
  | .p c, k => by simp only [Pic.cnt, Pic.depth]; split <;> simp
  | .q a b c d, k => by
    have ha := cnt_bd a k
    have hb := cnt_bd b k
    have hc := cnt_bd c k
    have hd := cnt_bd d k
    simp only [Pic.cnt, Pic.depth]
    have one : ∀ (m e : Nat) (x : Int), e ≤ m → 0 ≤ x ∧ x ≤ 4 ^ e → 0 ≤ x * 4 ^ (m - e) ∧ x * 4 ^ (m - e) ≤ 4 ^ m := by
      intro m e x h ⟨h0, h1⟩
      refine ⟨Int.mul_nonneg h0 (Int.le_of_lt (pow4 _)), ?_⟩
      have q := Int.mul_le_mul_of_nonneg_right h1 (Int.le_of_lt (pow4 (m - e)))
      rw [← pow4_add, Nat.add_sub_cancel' h] at q
      exact q
    have la := one (max (max a.depth b.depth) (max c.depth d.depth)) a.depth _ (by omega) ha
    have lb := one (max (max a.depth b.depth) (max c.depth d.depth)) b.depth _ (by omega) hb
    have lc := one (max (max a.depth b.depth) (max c.depth d.depth)) c.depth _ (by omega) hc
    have ld := one (max (max a.depth b.depth) (max c.depth d.depth)) d.depth _ (by omega) hd
    have e : (4 : Int) ^ (1 + max (max a.depth b.depth) (max c.depth d.depth)) = 4 * 4 ^ (max (max a.depth b.depth) (max c.depth d.depth)) := by rw [pow4_add]; rfl
    rw [e]
    constructor <;> omega
theorem ok_depth {P : Pic} (h : P.ok) : P.depth ≤ 12 := by
  cases P with
  | p c => simp [Pic.depth]
  | q a b c d => exact h.1
/-! ### turned pictures -/
abbrev P4 := Pic × Pic × Pic × Pic
def rot4 {α : Type} (x : α × α × α × α) : α × α × α × α := (x.2.2.1, x.1, x.2.2.2, x.2.1)
def rots4 {α : Type} : Nat → α × α × α × α → α × α × α × α
  | 0, x => x
  | k + 1, x => rot4 (rots4 k x)
def arr {α : Type} (t : Int) (x : α × α × α × α) : α × α × α × α := rots4 (t % 4).toNat (if 3 < t then (x.2.1, x.1, x.2.2.2, x.2.2.1) else x)
def Pic.turn (t : Int) : Pic → Pic
  | .p c => .p c
  | .q a b c d =>
    let x := arr t (a.turn t, b.turn t, c.turn t, d.turn t)
    .q x.1 x.2.1 x.2.2.1 x.2.2.2
/-- the number f is that of P -/
def IsF (ps : List Pic) (f : Int) (P : Pic) : Prop := 0 ≤ f ∧ ps[f.toNat]? = some P
theorem IsF.mem {ps : List Pic} {f : Int} {P : Pic} (h : IsF ps f P) : P ∈ ps := List.mem_of_getElem? h.2
theorem IsF.lt {ps : List Pic} {f : Int} {P : Pic} (h : IsF ps f P) : f < ps.length := by
  have := (List.getElem?_eq_some_iff.mp h.2).1
  have := h.1
  omega
theorem IsF.inj {ps : List Pic} {f : Int} {P Q : Pic} (h : IsF ps f P) (h' : IsF ps f Q) : P = Q := Option.some.inj (h.2.symm.trans h'.2)
theorem IsF.ix {ps : List Pic} {P : Pic} (h : P ∈ ps) : IsF ps (ix ps P : Nat) P := ⟨by omega, by simpa using ix_get h⟩
theorem IsF.eq {ps : List Pic} {f : Int} {P : Pic} (nd : ps.Nodup) (h : IsF ps f P) : f = (Mur.ix ps P : Nat) := by
  have := ix_of nd h.2
  have := h.1
  omega
theorem IsF.ex {ps : List Pic} {f : Int} (h0 : 0 ≤ f) (h1 : f < ps.length) : ∃ P, IsF ps f P := ⟨ps[f.toNat]'(by omega), h0, List.getElem?_eq_getElem (by omega)⟩
theorem IsF.app {ps qs : List Pic} {f : Int} {P : Pic} (h : IsF ps f P) : IsF (ps ++ qs) f P := by
  have := (List.getElem?_eq_some_iff.mp h.2).1
  exact ⟨h.1, by rw [List.getElem?_append_left this]; exact h.2⟩
/-- ps with P, at the end if it is new -/
def addP (ps : List Pic) (P : Pic) : List Pic := if P ∈ ps then ps else ps ++ [P]
theorem addP_mem (ps : List Pic) (P : Pic) : P ∈ addP ps P := by unfold addP; split <;> simp [*]
theorem addP_ext (ps : List Pic) (P : Pic) : ∃ qs, addP ps P = ps ++ qs := by
  unfold addP; split
  · exact ⟨[], by simp⟩
  · exact ⟨[P], rfl⟩
theorem addP_sub {ps : List Pic} {P Q : Pic} (h : Q ∈ addP ps P) : Q ∈ ps ∨ Q = P := by
  unfold addP at h; split at h
  · exact .inl h
  · simpa using h
theorem addP_len (ps : List Pic) (P : Pic) : (addP ps P).length ≤ ps.length + 1 := by unfold addP; split <;> simp
theorem IsF.add {ps : List Pic} {f : Int} {P Q : Pic} (h : IsF ps f P) : IsF (addP ps Q) f P := by
  obtain ⟨qs, e⟩ := addP_ext ps Q
  rw [e]; exact h.app
theorem nodup_sub {α : Type} [DecidableEq α] : ∀ {l m : List α}, l.Nodup → (∀ x ∈ l, x ∈ m) → l.length ≤ m.length
  | [], _, _, _ => by simp
  | x :: l, m, h, s => by
    have hx := s x (by simp)
    have h1 := nodup_sub (l := l) (m := m.erase x) (List.nodup_cons.mp h).2 fun y hy => by
      have hne : y ≠ x := fun z => (List.nodup_cons.mp h).1 (z ▸ hy)
      exact (List.mem_erase_of_ne hne).mpr (s y (by simp [hy]))
    have h2 := List.length_erase_of_mem hx
    have : 0 < m.length := List.length_pos_of_mem hx
    simp only [List.length_cons]
    omega
structure WhOk (ps : List Pic) (wh : List (List Key × V)) : Prop where
  val : ∀ (f t : Int) (v : V), valV wh [.inl f, .inl t] = some v → ∃ P, IsF ps f P ∧ P.turn t ∈ ps ∧ v = .int (ix ps (P.turn t) : Nat)
  nd : (wh.map (·.1)).Nodup
  keys : ∀ k ∈ wh.map (·.1), ∃ i t : Nat, i < ps.length ∧ t < 8 ∧ k = [.inl (i : Int), .inl (t : Int)]
theorem WhOk.app {ps qs : List Pic} {wh : List (List Key × V)} (h : WhOk ps wh) : WhOk (ps ++ qs) wh :=
  ⟨fun f t v e => by
    obtain ⟨P, h1, h2, h3⟩ := h.val f t v e
    exact ⟨P, h1.app, List.mem_append_left _ h2, by rw [ix_app h2]; exact h3⟩, h.nd, fun k hk => by
    obtain ⟨i, t, h1, h2, h3⟩ := h.keys k hk
    exact ⟨i, t, by simp; omega, h2, h3⟩⟩
theorem WhOk.add {ps : List Pic} {wh : List (List Key × V)} (Q : Pic) (h : WhOk ps wh) : WhOk (addP ps Q) wh := by
  obtain ⟨qs, e⟩ := addP_ext ps Q
  rw [e]; exact h.app
theorem WhOk.nil : WhOk [] [] := ⟨fun f t v e => by simp [valV] at e, by simp, by simp⟩
theorem WhOk.len {ps : List Pic} {wh : List (List Key × V)} (h : WhOk ps wh) : wh.length ≤ 8 * ps.length := by
  have e := nodup_sub (m := (List.range ps.length).flatMap fun i : Nat => (List.range 8).map fun t : Nat => ([.inl ((i : Nat) : Int), .inl ((t : Nat) : Int)] : List Key)) h.nd fun k hk => by
    obtain ⟨i, t, h1, h2, h3⟩ := h.keys k hk
    subst h3
    simp only [List.mem_flatMap, List.mem_range, List.mem_map]
    exact ⟨i, h1, t, h2, rfl⟩
  have e2 : ∀ l : List Nat, (l.flatMap fun i : Nat => (List.range 8).map fun t : Nat => ([.inl ((i : Nat) : Int), .inl ((t : Nat) : Int)] : List Key)).length = 8 * l.length := by
    intro l
    induction l with
    | nil => rfl
    | cons x l ih =>
      rw [List.flatMap_cons, List.length_append, ih, List.length_map, List.length_range, List.length_cons]
      omega
  have e3 := e2 (List.range ps.length)
  rw [List.length_range] at e3
  rw [List.length_map] at e
  omega
theorem KnOk.nil : KnOk [] [] := ⟨rfl, fun P _ => by simp [valV], fun k v e => by simp [valV] at e⟩
theorem PInv.nil : PInv [] := ⟨by simp, by simp, by simp⟩
end Mur
/-! The store of faces in the heap. -/
namespace Mur
open PySem hiding start
open PySem.Spec L2
open PyProof.Rows hiding St
abbrev fsFaces (v0 v1 v2 v3 v4 : V) : List (Str × V) := [("nodes", v0), ("depths", v1), ("sums", v2), ("known", v3), ("whirls", v4)]
section
variable {v0 v1 v2 v3 v4 x : V}
theorem lkFaces_nodes : (fsFaces v0 v1 v2 v3 v4).lookup ("nodes" : Str) = some v0 := by rfl
theorem ptFaces_nodes : putF ("nodes" : Str) x (fsFaces v0 v1 v2 v3 v4) = fsFaces x v1 v2 v3 v4 := by rfl
theorem lkFaces_depths : (fsFaces v0 v1 v2 v3 v4).lookup ("depths" : Str) = some v1 := by rfl
theorem ptFaces_depths : putF ("depths" : Str) x (fsFaces v0 v1 v2 v3 v4) = fsFaces v0 x v2 v3 v4 := by rfl
theorem lkFaces_sums : (fsFaces v0 v1 v2 v3 v4).lookup ("sums" : Str) = some v2 := by rfl
theorem ptFaces_sums : putF ("sums" : Str) x (fsFaces v0 v1 v2 v3 v4) = fsFaces v0 v1 x v3 v4 := by rfl
theorem lkFaces_known : (fsFaces v0 v1 v2 v3 v4).lookup ("known" : Str) = some v3 := by rfl
theorem ptFaces_known : putF ("known" : Str) x (fsFaces v0 v1 v2 v3 v4) = fsFaces v0 v1 v2 x v4 := by rfl
theorem lkFaces_whirls : (fsFaces v0 v1 v2 v3 v4).lookup ("whirls" : Str) = some v4 := by rfl
theorem ptFaces_whirls : putF ("whirls" : Str) x (fsFaces v0 v1 v2 v3 v4) = fsFaces v0 v1 v2 v3 x := by rfl
theorem noFaces_stored : (fsFaces v0 v1 v2 v3 v4).lookup ("stored" : Str) = none := by rfl
theorem noFaces_need : (fsFaces v0 v1 v2 v3 v4).lookup ("need" : Str) = none := by rfl
theorem noFaces_plain : (fsFaces v0 v1 v2 v3 v4).lookup ("plain" : Str) = none := by rfl
theorem noFaces_four : (fsFaces v0 v1 v2 v3 v4).lookup ("four" : Str) = none := by rfl
theorem noFaces_depth : (fsFaces v0 v1 v2 v3 v4).lookup ("depth" : Str) = none := by rfl
theorem noFaces_quarters : (fsFaces v0 v1 v2 v3 v4).lookup ("quarters" : Str) = none := by rfl
theorem noFaces_colour : (fsFaces v0 v1 v2 v3 v4).lookup ("colour" : Str) = none := by rfl
theorem noFaces_need_depth : (fsFaces v0 v1 v2 v3 v4).lookup ("need_depth" : Str) = none := by rfl
theorem noFaces_cell : (fsFaces v0 v1 v2 v3 v4).lookup ("cell" : Str) = none := by rfl
theorem noFaces_counts : (fsFaces v0 v1 v2 v3 v4).lookup ("counts" : Str) = none := by rfl
theorem noFaces_turned : (fsFaces v0 v1 v2 v3 v4).lookup ("turned" : Str) = none := by rfl
theorem noFaces_whirled : (fsFaces v0 v1 v2 v3 v4).lookup ("whirled" : Str) = none := by rfl
theorem noFaces_kind : (fsFaces v0 v1 v2 v3 v4).lookup ("kind" : Str) = none := by rfl
theorem noFaces_turning : (fsFaces v0 v1 v2 v3 v4).lookup ("turning" : Str) = none := by rfl
theorem noFaces_apart : (fsFaces v0 v1 v2 v3 v4).lookup ("apart" : Str) = none := by rfl
end
/-- a field of a new object is stored: the heap behind it -/
theorem init_step {H : Hp} {p C dx n : Addr} {fs fs' : List (Str × V)} {o : HO} (hp : H p = some (.ins C dx fs)) (hn : H n = none) :
    (upd (upd H n o) p (.ins C dx fs')) p = some (.ins C dx fs') ∧ (upd (upd H n o) p (.ins C dx fs')) n = some o ∧ (∀ b u, H b = some u → b ≠ p → (upd (upd H n o) p (.ins C dx fs')) b = some u) ∧ n ≠ p := by
  have np : n ≠ p := (ne_of_none hp hn).symm
  exact ⟨upd_same, by rw [upd_ne np, upd_same], fun b u e hb => by rw [upd_ne hb, upd_ne (ne_of_none e hn)]; exact e, np⟩
/-- the store's own lists and dicts -/
structure FA where
  n : Addr
  d : Addr
  s : Addr
  k : Addr
  w : Addr
def FA.foot (A : FA) (b : Addr) : Prop := b = A.n ∨ b = A.d ∨ b = A.s ∨ b = A.k ∨ b = A.w
theorem upd_ex {H : Hp} {a b : Addr} {o : HO} (h : ∃ u, H b = some u) : ∃ u, upd H a o b = some u := by
  by_cases e : b = a
  · subst e; exact ⟨o, upd_same⟩
  · rw [upd_ne e]; exact h
/-- what is not at F stays -/
def Keep (F : Addr → Prop) (H H' : Hp) : Prop := ∀ b o, H b = some o → ¬ F b → H' b = some o
theorem Keep.refl (F : Addr → Prop) (H : Hp) : Keep F H H := fun _ _ h _ => h
theorem Keep.trans {F : Addr → Prop} {H H1 H2 : Hp} (a : Keep F H H1) (b : Keep F H1 H2) : Keep F H H2 := fun c o h n => b c o (a c o h n) n
theorem _root_.L2.Same.keep {F : Addr → Prop} {H H' : Hp} (s : Same H H') : Keep F H H' := fun b o h _ => s b o h
theorem Keep.mono {F G : Addr → Prop} {H H' : Hp} (h : Keep F H H') (i : ∀ b, F b → G b) : Keep G H H' := fun b o e n => h b o e fun z => n (i b z)
theorem Keep.set {F : Addr → Prop} {H H' : Hp} {a : Addr} {o : HO} (h : Keep F H H') (f : F a) : Keep F H (upd H' a o) := fun b u e n => by
  rw [upd_ne (fun z => n (by rw [z]; exact f))]; exact h b u e n
/-- a store stands at p; D: all addresses that it leans on -/
structure FacesAt (C : Addr) (H : Hp) (p : Addr) (A : FA) (D : Addr → Prop) (ps : List Pic) : Prop where
  ob : ∃ dx, H p = some (.ins C dx (fsFaces (.ref A.n) (.ref A.d) (.ref A.s) (.ref A.k) (.ref A.w)))
  nodes : ∃ ns : List Addr, H A.n = some (.lst (ns.map V.ref)) ∧ ns.length = ps.length ∧ ∀ (i : Nat) (a : Addr) (P : Pic), ns[i]? = some a → ps[i]? = some P → D a ∧ H a = some (.tup ((nodeOf ps P).map V.int))
  depths : H A.d = some (.lst (ps.map fun P => V.int (P.depth : Nat)))
  sums : ∃ ss : List Addr, H A.s = some (.lst (ss.map V.ref)) ∧ ss.length = ps.length ∧ ∀ (i : Nat) (a : Addr) (P : Pic), ss[i]? = some a → ps[i]? = some P → D a ∧ ¬ A.foot a ∧ H a = some (.lst (P.sums.map V.int))
  known : ∃ kvs, H A.k = some (.dT kvs) ∧ KnOk ps kvs
  whirl : ∃ wh, H A.w = some (.dT wh) ∧ WhOk ps wh
  inv : PInv ps
  dp : D p
  df : ∀ b, A.foot b → D b
  ex : ∀ b, D b → ∃ o, H b = some o
  ap : A.n ≠ A.d ∧ A.n ≠ A.s ∧ A.d ≠ A.s ∧ A.k ≠ A.w
section
variable {C : Addr} {H H' : Hp} {p : Addr} {A : FA} {D : Addr → Prop} {ps : List Pic}
theorem FacesAt.keep (h : FacesAt C H p A D ps) (k : ∀ b o, D b → H b = some o → H' b = some o) : FacesAt C H' p A D ps := by
  obtain ⟨⟨dx, ob⟩, ⟨ns, n1, n2, n3⟩, dd, ⟨ss, s1, s2, s3⟩, ⟨kvs, k1, k2⟩, ⟨wh, w1, w2⟩, inv, dp, df, ex, ap⟩ := h
  exact ⟨⟨dx, k _ _ dp ob⟩, ⟨ns, k _ _ (df _ (.inl rfl)) n1, n2, fun i a P e1 e2 => ⟨(n3 i a P e1 e2).1, k _ _ (n3 i a P e1 e2).1 (n3 i a P e1 e2).2⟩⟩, k _ _ (df _ (.inr (.inl rfl))) dd,
    ⟨ss, k _ _ (df _ (.inr (.inr (.inl rfl)))) s1, s2, fun i a P e1 e2 => ⟨(s3 i a P e1 e2).1, (s3 i a P e1 e2).2.1, k _ _ (s3 i a P e1 e2).1 (s3 i a P e1 e2).2.2⟩⟩,
    ⟨kvs, k _ _ (df _ (.inr (.inr (.inr (.inl rfl))))) k1, k2⟩, ⟨wh, k _ _ (df _ (.inr (.inr (.inr (.inr rfl))))) w1, w2⟩, inv, dp, df, fun b hb => let ⟨o, e⟩ := ex b hb; ⟨o, k b o hb e⟩, ap⟩
theorem FacesAt.same (h : FacesAt C H p A D ps) (s : Same H H') : FacesAt C H' p A D ps := h.keep fun b o _ e => s b o e
theorem FacesAt.len (h : FacesAt C H p A D ps) : ∃ ns : List Addr, H A.n = some (.lst (ns.map V.ref)) ∧ ns.length = ps.length := let ⟨ns, a, b, _⟩ := h.nodes; ⟨ns, a, b⟩
theorem foot_tup (h : FacesAt C H p A D ps) {t : Addr} {xs : List V} (ht : H t = some (.tup xs)) : ¬ A.foot t := by
  obtain ⟨ns, hn, _⟩ := h.nodes
  obtain ⟨ss, hs, _⟩ := h.sums
  obtain ⟨kvs, hk, _⟩ := h.known
  obtain ⟨wh, hw, _⟩ := h.whirl
  rintro (rfl | rfl | rfl | rfl | rfl)
  · rw [ht] at hn; cases hn
  · have := h.depths; rw [ht] at this; cases this
  · rw [ht] at hs; cases hs
  · rw [ht] at hk; cases hk
  · rw [ht] at hw; cases hw
theorem foot_p (h : FacesAt C H p A D ps) : ¬ A.foot p := by
  obtain ⟨dx, ob⟩ := h.ob
  obtain ⟨ns, hn, _⟩ := h.nodes
  obtain ⟨ss, hs, _⟩ := h.sums
  obtain ⟨kvs, hk, _⟩ := h.known
  obtain ⟨wh, hw, _⟩ := h.whirl
  rintro (e | e | e | e | e)
  · rw [e, hn] at ob; cases ob
  · rw [e, h.depths] at ob; cases ob
  · rw [e, hs] at ob; cases ob
  · rw [e, hk] at ob; cases ob
  · rw [e, hw] at ob; cases ob
/-- a new picture has been laid down -/
theorem FacesAt.stored (h : FacesAt C H p A D ps) {P : Pic} {t sm : Addr} {ns ss : List Addr} {kvs : List (List Key × V)} (hn : H A.n = some (.lst (ns.map V.ref))) (hs : H A.s = some (.lst (ss.map V.ref))) (hk : H A.k = some (.dT kvs))
    (ht : H t = some (.tup ((nodeOf ps P).map V.int))) (hsm : H sm = some (.lst (P.sums.map V.int))) (nf : ¬ A.foot sm) (pin : PartsIn ps P) (ok : P.ok) (hP : P ∉ ps) :
    Keep A.foot H (upd (upd (upd (upd H A.k (.dT (putK kvs (key (nodeOf ps P)) (.int (ps.length : Nat))))) A.n (.lst (ns.map V.ref ++ [.ref t]))) A.d (.lst (ps.map (fun P => V.int (P.depth : Nat)) ++ [.int (P.depth : Nat)]))) A.s (.lst (ss.map V.ref ++ [.ref sm]))) ∧
    FacesAt C (upd (upd (upd (upd H A.k (.dT (putK kvs (key (nodeOf ps P)) (.int (ps.length : Nat))))) A.n (.lst (ns.map V.ref ++ [.ref t]))) A.d (.lst (ps.map (fun P => V.int (P.depth : Nat)) ++ [.int (P.depth : Nat)]))) A.s (.lst (ss.map V.ref ++ [.ref sm]))) p A (fun b => D b ∨ b = t ∨ b = sm) (ps ++ [P]) := by
  have tf := foot_tup h ht
  have pf := foot_p h
  obtain ⟨⟨dx, ob⟩, ⟨ns', n1, n2, n3⟩, dd, ⟨ss', s1, s2, s3⟩, ⟨kvs', k1, k2⟩, ⟨wh, w1, w2⟩, inv, dp, df, ex, ap1, ap2, ap3, ap4⟩ := h
  have ens : ns'.map V.ref = ns.map V.ref := by rw [hn] at n1; injection n1 with n1; injection n1 with n1; exact n1.symm
  have ess : ss'.map V.ref = ss.map V.ref := by rw [hs] at s1; injection s1 with s1; injection s1 with s1; exact s1.symm
  have ekv : kvs' = kvs := by rw [hk] at k1; injection k1 with k1; injection k1 with k1; exact k1.symm
  subst ekv
  have K : Keep A.foot H (upd (upd (upd (upd H A.k (.dT (putK kvs' (key (nodeOf ps P)) (.int (ps.length : Nat))))) A.n (.lst (ns.map V.ref ++ [.ref t]))) A.d (.lst (ps.map (fun P => V.int (P.depth : Nat)) ++ [.int (P.depth : Nat)]))) A.s (.lst (ss.map V.ref ++ [.ref sm]))) :=
    (((Keep.refl A.foot H).set (.inr (.inr (.inr (.inl rfl))))).set (.inl rfl)).set (.inr (.inl rfl)) |>.set (.inr (.inr (.inl rfl)))
  have nk : A.n ≠ A.k := ne_of hn hk (by intro z; cases z)
  have dk : A.d ≠ A.k := ne_of dd hk (by intro z; cases z)
  have sk : A.s ≠ A.k := ne_of hs hk (by intro z; cases z)
  have nw : A.n ≠ A.w := ne_of hn w1 (by intro z; cases z)
  have dw : A.d ≠ A.w := ne_of dd w1 (by intro z; cases z)
  have sw : A.s ≠ A.w := ne_of hs w1 (by intro z; cases z)
  have e0 := k2.val P pin
  rw [if_neg hP] at e0
  refine ⟨K, ⟨dx, K _ _ ob pf⟩, ⟨ns ++ [t], by rw [upd_ne ap2, upd_ne ap1, upd_same, List.map_append]; rfl, ?_, ?_⟩, ?_, ⟨ss ++ [sm], by rw [upd_same, List.map_append]; rfl, ?_, ?_⟩, ⟨putK kvs' (key (nodeOf ps P)) (.int (ps.length : Nat)), ?_, ?_⟩, ⟨wh, ?_, w2.app⟩, inv.add hP pin ok, .inl dp, fun b hb => .inl (df b hb), ?_, ap1, ap2, ap3, ap4⟩
  · have : ns.length = ns'.length := by have := congrArg List.length ens; simpa using this.symm
    simp [this, n2]
  · intro i a Q e1 e2
    have ln : ns.length = ps.length := by have := congrArg List.length ens; simp at this; omega
    by_cases hi : i < ns.length
    · rw [List.getElem?_append_left hi] at e1
      rw [List.getElem?_append_left (by omega)] at e2
      have e1' : ns'[i]? = some a := by
        have q : (ns'.map V.ref)[i]? = (ns.map V.ref)[i]? := by rw [ens]
        rw [List.getElem?_map, List.getElem?_map, e1] at q
        cases r : ns'[i]? with
        | none => rw [r] at q; cases q
        | some b => rw [r] at q; injection q with q; injection q with q; rw [q]
      obtain ⟨da, ha⟩ := n3 i a Q e1' e2
      have hQ : Q ∈ ps := List.mem_of_getElem? e2
      exact ⟨.inl da, by rw [node_app (inv.cl Q hQ)]; exact K _ _ ha (fun z => by
        rcases z with rfl | rfl | rfl | rfl | rfl
        · rw [hn] at ha; cases ha
        · rw [dd] at ha; cases ha
        · rw [hs] at ha; cases ha
        · rw [hk] at ha; cases ha
        · rw [w1] at ha; cases ha)⟩
    · have hi2 : i = ns.length := by
        have := (List.getElem?_eq_some_iff.mp e1).1
        simp at this; omega
      subst hi2
      rw [List.getElem?_append_right (Nat.le_refl _)] at e1
      rw [ln, List.getElem?_append_right (Nat.le_refl _)] at e2
      simp at e1 e2
      subst e1 e2
      exact ⟨.inr (.inl rfl), by rw [node_app pin]; exact K _ _ ht tf⟩
  · rw [upd_ne ap3, upd_same, List.map_append]
    rfl
  · have : ss.length = ss'.length := by have := congrArg List.length ess; simpa using this.symm
    simp [this, s2]
  · intro i a Q e1 e2
    have ln : ss.length = ps.length := by have := congrArg List.length ess; simp at this; omega
    by_cases hi : i < ss.length
    · rw [List.getElem?_append_left hi] at e1
      rw [List.getElem?_append_left (by omega)] at e2
      have e1' : ss'[i]? = some a := by
        have q : (ss'.map V.ref)[i]? = (ss.map V.ref)[i]? := by rw [ess]
        rw [List.getElem?_map, List.getElem?_map, e1] at q
        cases r : ss'[i]? with
        | none => rw [r] at q; cases q
        | some b => rw [r] at q; injection q with q; injection q with q; rw [q]
      obtain ⟨da, fa, ha⟩ := s3 i a Q e1' e2
      exact ⟨.inl da, fa, K _ _ ha fa⟩
    · have hi2 : i = ss.length := by
        have := (List.getElem?_eq_some_iff.mp e1).1
        simp at this; omega
      subst hi2
      rw [List.getElem?_append_right (Nat.le_refl _)] at e1
      rw [ln, List.getElem?_append_right (Nat.le_refl _)] at e2
      simp at e1 e2
      subst e1 e2
      exact ⟨.inr (.inr rfl), nf, K _ _ hsm nf⟩
  · rw [upd_ne sk.symm, upd_ne dk.symm, upd_ne nk.symm, upd_same]
  · rw [putK_new _ e0]
    exact k2.add inv hP pin
  · rw [upd_ne sw.symm, upd_ne dw.symm, upd_ne nw.symm, upd_ne ap4.symm]
    exact w1
  · rintro b (hb | rfl | rfl)
    · obtain ⟨o, e⟩ := ex b hb
      exact upd_ex (upd_ex (upd_ex (upd_ex ⟨o, e⟩)))
    · exact ⟨_, K _ _ ht tf⟩
    · exact ⟨_, K _ _ hsm nf⟩
theorem FacesAt.nd (h : FacesAt C H p A D ps) {b : Addr} (e : H b = none) : ¬ D b := fun z => by
  obtain ⟨o, q⟩ := h.ex b z
  rw [e] at q; cases q
theorem FacesAt.ofFoot (h : FacesAt C H p A D ps) {b : Addr} (e : ¬ D b) : ¬ A.foot b := fun z => e (h.df b z)
theorem FacesAt.depthAt {f : Int} {P : Pic} (h : IsF ps f P) : atI (ps.map fun P => V.int (P.depth : Nat)) f = some (.int (P.depth : Nat)) := by
  refine atI_of (n := f.toNat) ?_ (by have := h.1; omega)
  rw [List.getElem?_map, h.2]
  rfl
/-- what a method of the store leaves -/
def After (C : Addr) (H : Hp) (p : Addr) (A : FA) (D : Addr → Prop) (qs : List Pic) (R : Hp → Prop) : Prop := ∀ H' D', Keep A.foot H H' → FacesAt C H' p A D' qs → (∀ b, D b → D' b) → (∀ b, D' b → D b ∨ H b = none) → R H'
end
end Mur
/-! Turned pictures and their cells, plain mathematics. -/
namespace Mur
open PySem hiding start
open PySem.Spec L2
open PyProof.Rows hiding St
theorem eight {t : Int} (h0 : 0 ≤ t) (h8 : t < 8) : t = 0 ∨ t = 1 ∨ t = 2 ∨ t = 3 ∨ t = 4 ∨ t = 5 ∨ t = 6 ∨ t = 7 := by omega
def afterI (a b : Int) : Int := (if 3 < b then b % 4 - a % 4 else a % 4 + b % 4) % 4 + 4 * ((a / 4 + b / 4) % 2)
def map4 {α β : Type} (f : α → β) (x : α × α × α × α) : β × β × β × β := (f x.1, f x.2.1, f x.2.2.1, f x.2.2.2)
theorem after_rg {a b : Int} (h0 : 0 ≤ a) (h8 : a < 8) (g0 : 0 ≤ b) (g8 : b < 8) : 0 ≤ afterI a b ∧ afterI a b < 8 := by
  rcases eight h0 h8 with rfl | rfl | rfl | rfl | rfl | rfl | rfl | rfl <;> rcases eight g0 g8 with rfl | rfl | rfl | rfl | rfl | rfl | rfl | rfl <;> decide
theorem arr_map {α β : Type} {t : Int} (h0 : 0 ≤ t) (h8 : t < 8) (f : α → β) (x : α × α × α × α) : map4 f (arr t x) = arr t (map4 f x) := by
  rcases eight h0 h8 with rfl | rfl | rfl | rfl | rfl | rfl | rfl | rfl <;> rfl
theorem arr_arr {a b : Int} (h0 : 0 ≤ a) (h8 : a < 8) (g0 : 0 ≤ b) (g8 : b < 8) (x : P4) : arr b (arr a x) = arr (afterI a b) x := by
  rcases eight h0 h8 with rfl | rfl | rfl | rfl | rfl | rfl | rfl | rfl <;> rcases eight g0 g8 with rfl | rfl | rfl | rfl | rfl | rfl | rfl | rfl <;> rfl
def q4 (x : P4) : Pic := .q x.1 x.2.1 x.2.2.1 x.2.2.2
theorem turn_q (t : Int) (a b c d : Pic) : (Pic.q a b c d).turn t = q4 (arr t (a.turn t, b.turn t, c.turn t, d.turn t)) := rfl
theorem turn_q4 (t : Int) (x : P4) : (q4 x).turn t = q4 (arr t (map4 (Pic.turn t) x)) := rfl
theorem turn_turn {a b : Int} (h0 : 0 ≤ a) (h8 : a < 8) (g0 : 0 ≤ b) (g8 : b < 8) : ∀ P : Pic, (P.turn a).turn b = P.turn (afterI a b)
  | .p c => rfl
  | .q x y z w => by
    rw [turn_q, turn_q4, arr_map h0 h8, arr_arr h0 h8 g0 g8, turn_q]
    simp only [map4]
    rw [turn_turn h0 h8 g0 g8 x, turn_turn h0 h8 g0 g8 y, turn_turn h0 h8 g0 g8 z, turn_turn h0 h8 g0 g8 w]
theorem arr_zero (x : P4) : arr 0 x = x := rfl
theorem turn_zero : ∀ P : Pic, P.turn 0 = P
  | .p c => rfl
  | .q x y z w => by rw [turn_q, arr_zero, turn_zero x, turn_zero y, turn_zero z, turn_zero w]; rfl
theorem turn_back {a : Int} (h0 : 0 ≤ a) (h8 : a < 8) : ∃ b, 0 ≤ b ∧ b < 8 ∧ ∀ P : Pic, (P.turn a).turn b = P := by
  have : ∃ b, 0 ≤ b ∧ b < 8 ∧ afterI a b = 0 := by
    rcases eight h0 h8 with rfl | rfl | rfl | rfl | rfl | rfl | rfl | rfl
    · exact ⟨0, by decide⟩
    · exact ⟨3, by decide⟩
    · exact ⟨2, by decide⟩
    · exact ⟨1, by decide⟩
    · exact ⟨4, by decide⟩
    · exact ⟨5, by decide⟩
    · exact ⟨6, by decide⟩
    · exact ⟨7, by decide⟩
  obtain ⟨b, b0, b8, e⟩ := this
  exact ⟨b, b0, b8, fun P => by rw [turn_turn h0 h8 b0 b8, e, turn_zero]⟩
theorem turn_inj {a : Int} (h0 : 0 ≤ a) (h8 : a < 8) {P Q : Pic} (e : P.turn a = Q.turn a) : P = Q := by
  obtain ⟨b, _, _, h⟩ := turn_back h0 h8
  rw [← h P, ← h Q, e]
theorem q4_depth {t : Int} (h0 : 0 ≤ t) (h8 : t < 8) (x : P4) : (q4 (arr t x)).depth = (q4 x).depth := by
  rcases eight h0 h8 with rfl | rfl | rfl | rfl | rfl | rfl | rfl | rfl <;> simp only [q4, arr, rots4, rot4, Pic.depth] <;> simp [rots4, rot4] <;> omega
theorem turn_depth {t : Int} (h0 : 0 ≤ t) (h8 : t < 8) : ∀ P : Pic, (P.turn t).depth = P.depth
  | .p c => rfl
  | .q x y z w => by
    rw [turn_q, q4_depth h0 h8]
    simp only [q4, Pic.depth]
    rw [turn_depth h0 h8 x, turn_depth h0 h8 y, turn_depth h0 h8 z, turn_depth h0 h8 w]
theorem arr_all {t : Int} (h0 : 0 ≤ t) (h8 : t < 8) (x : P4) (h : (arr t x).1 = (arr t x).2.1 ∧ (arr t x).2.1 = (arr t x).2.2.1 ∧ (arr t x).2.2.1 = (arr t x).2.2.2) : x.1 = x.2.1 ∧ x.2.1 = x.2.2.1 ∧ x.2.2.1 = x.2.2.2 := by
  obtain ⟨a, b, c, d⟩ := x
  rcases eight h0 h8 with rfl | rfl | rfl | rfl | rfl | rfl | rfl | rfl <;> simp [arr, rots4, rot4] at h ⊢ <;> obtain ⟨e1, e2, e3⟩ := h <;> subst_vars <;> simp
theorem turn_ok {t : Int} (h0 : 0 ≤ t) (h8 : t < 8) {P : Pic} (h : P.ok) : (P.turn t).ok := by
  cases P with
  | p c => exact h
  | q x y z w =>
    obtain ⟨h1, h2⟩ := h
    have hd := turn_depth h0 h8 (.q x y z w)
    rw [turn_q] at hd ⊢
    refine ⟨by show (q4 _).depth ≤ 12; rw [hd]; exact h1, fun ⟨e1, e2, e3, e4⟩ => h2 ?_⟩
    obtain ⟨f1, f2, f3⟩ := arr_all h0 h8 (x.turn t, y.turn t, z.turn t, w.turn t) ⟨e1, e2, e3⟩
    have g1 := turn_inj h0 h8 f1
    have g2 := turn_inj h0 h8 f2
    have g3 := turn_inj h0 h8 f3
    subst g1 g2 g3
    refine ⟨rfl, rfl, rfl, ?_⟩
    have e5 : (arr t (x.turn t, x.turn t, x.turn t, x.turn t)).1 = x.turn t := by
      rcases eight h0 h8 with rfl | rfl | rfl | rfl | rfl | rfl | rfl | rfl <;> rfl
    rw [e5, turn_depth h0 h8] at e4
    exact e4
theorem q4_cnt {t : Int} (h0 : 0 ≤ t) (h8 : t < 8) (x : P4) (k : Int) : (q4 (arr t x)).cnt k = (q4 x).cnt k := by
  have hd := q4_depth h0 h8 x
  obtain ⟨a, b, c, d⟩ := x
  simp only [q4, Pic.depth, Nat.add_left_cancel_iff] at hd
  simp only [q4, Pic.cnt]
  rw [hd]
  rcases eight h0 h8 with rfl | rfl | rfl | rfl | rfl | rfl | rfl | rfl <;> simp only [arr, rots4, rot4] <;> simp [rots4, rot4] <;> omega
theorem turn_cnt {t : Int} (h0 : 0 ≤ t) (h8 : t < 8) : ∀ (P : Pic) (k : Int), (P.turn t).cnt k = P.cnt k
  | .p c, k => rfl
  | .q x y z w, k => by
    rw [turn_q, q4_cnt h0 h8]
    simp only [q4, Pic.cnt]
    rw [turn_depth h0 h8 x, turn_depth h0 h8 y, turn_depth h0 h8 z, turn_depth h0 h8 w, turn_cnt h0 h8 x, turn_cnt h0 h8 y, turn_cnt h0 h8 z, turn_cnt h0 h8 w]
theorem pow4_le {s n : Nat} (h : s ≤ n) : (4 : Int) ^ s ≤ 4 ^ n := by
  have e1 : (4 : Int) ^ n = 4 ^ s * 4 ^ (n - s) := by rw [← pow4_add]; congr 1; omega
  have h1 : (1 : Int) ≤ 4 ^ (n - s) := by have := pow4 (n - s); omega
  have h2 := Int.mul_le_mul_of_nonneg_left h1 (Int.le_of_lt (pow4 s))
  rw [e1]; omega
theorem eqv_ints : ∀ ns : List Int, PyData.eqvAll (ns.map PyData.int) (ns.map PyData.int) = true
  | [] => rfl
  | n :: ns => by simp [PyData.eqvAll, PyData.eqv, eqv_ints ns]
def term4 (m : Nat) (P : Pic) (k : Nat) : Int := P.cnt (k : Int) * 4 ^ (m - P.depth)
def part4 (m : Nat) (l : List Pic) (k : Nat) : Int := (l.map fun P => term4 m P k).sum
theorem part4_add (m : Nat) (l : List Pic) (P : Pic) (k : Nat) : part4 m (l ++ [P]) k = part4 m l k + term4 m P k := by simp [part4]
theorem mk_ok {a b c d : Pic} (h : (Pic.q a b c d).ok) : Pic.mk a b c d = .q a b c d := if_neg h.2
/-! ### cells -/
def pick4 (i : Int) (a b c d : Pic) : Pic := if i = 0 then a else if i = 1 then b else if i = 2 then c else d
/-- the cell of a picture looked at in 2 ^ s cells each way -/
def Pic.cell : Pic → Nat → Int → Int → Int
  | .p c, _, _, _ => c
  | .q a b c d, s, x, y =>
    let h := (2 : Int) ^ (s - 1)
    let i := 2 * (y / h) + x / h
    if i = 0 then a.cell (s - 1) (x % h) (y % h) else if i = 1 then b.cell (s - 1) (x % h) (y % h) else if i = 2 then c.cell (s - 1) (x % h) (y % h) else d.cell (s - 1) (x % h) (y % h)
theorem pow2 (n : Nat) : (0 : Int) < 2 ^ n := Int.pow_pos (by decide)
theorem half_of {h x : Int} (hh : 0 < h) (h0 : 0 ≤ x) (h1 : x < 2 * h) : (x / h = 0 ∧ x % h = x ∧ x < h) ∨ (x / h = 1 ∧ x % h = x - h ∧ h ≤ x) := by
  by_cases c : x < h
  · exact .inl ⟨Int.ediv_eq_zero_of_lt h0 c, Int.emod_eq_of_lt h0 c, c⟩
  · refine .inr ?_
    have e : x = (x - h) + h * 1 := by omega
    have d1 : x / h = 1 := by rw [e, Int.add_mul_ediv_left _ _ (by omega), Int.ediv_eq_zero_of_lt (by omega) (by omega)]; rfl
    have d2 : x % h = x - h := by rw [e, Int.add_mul_emod_self_left, Int.emod_eq_of_lt (by omega) (by omega)]; omega
    exact ⟨d1, d2, by omega⟩
theorem cell_rot : ∀ (P : Pic) (s : Nat) (x y : Int), P.depth ≤ s → 0 ≤ x → x < 2 ^ s → 0 ≤ y → y < 2 ^ s → (P.turn 1).cell s x y = P.cell s y (2 ^ s - 1 - x)
  | .p c, _, _, _, _, _, _, _, _ => rfl
  | .q a b c d, 0, x, y, hd, _, _, _, _ => by simp [Pic.depth] at hd
  | .q a b c d, s + 1, x, y, hd, hx0, hx1, hy0, hy1 => by
    have e : (2 : Int) ^ (s + 1) = 2 * 2 ^ s := by rw [Int.pow_succ]; omega
    rw [e] at hx1 hy1 ⊢
    simp only [Pic.depth] at hd
    have hp := pow2 s
    show (Pic.q (c.turn 1) (a.turn 1) (d.turn 1) (b.turn 1)).cell (s + 1) x y = _
    simp only [Pic.cell, Nat.add_sub_cancel]
    rcases half_of hp hx0 hx1 with ⟨x1, x2, x3⟩ | ⟨x1, x2, x3⟩ <;> rcases half_of hp hy0 hy1 with ⟨y1, y2, y3⟩ | ⟨y1, y2, y3⟩ <;>
      rcases half_of (x := 2 * 2 ^ s - 1 - x) hp (by omega) (by omega) with ⟨z1, z2, z3⟩ | ⟨z1, z2, z3⟩ <;> try omega
    · rw [x1, x2, y1, y2, z1, z2]
      simp
      rw [cell_rot c s x y (by omega) hx0 (by omega) hy0 (by omega)]
      congr 1; omega
    · rw [x1, x2, y1, y2, z1, z2]
      simp
      rw [cell_rot d s x _ (by omega) hx0 (by omega) (by omega) (by omega)]
      congr 1; omega
    · rw [x1, x2, y1, y2, z1, z2]
      simp
      rw [cell_rot a s _ y (by omega) (by omega) (by omega) hy0 (by omega)]
      congr 1; omega
    · rw [x1, x2, y1, y2, z1, z2]
      simp
      rw [cell_rot b s _ _ (by omega) (by omega) (by omega) (by omega) (by omega)]
      congr 1; omega
theorem cell_mir : ∀ (P : Pic) (s : Nat) (x y : Int), P.depth ≤ s → 0 ≤ x → x < 2 ^ s → 0 ≤ y → y < 2 ^ s → (P.turn 4).cell s x y = P.cell s (2 ^ s - 1 - x) y
  | .p c, _, _, _, _, _, _, _, _ => rfl
  | .q a b c d, 0, x, y, hd, _, _, _, _ => by simp [Pic.depth] at hd
  | .q a b c d, s + 1, x, y, hd, hx0, hx1, hy0, hy1 => by
    have e : (2 : Int) ^ (s + 1) = 2 * 2 ^ s := by rw [Int.pow_succ]; omega
    rw [e] at hx1 hy1 ⊢
    simp only [Pic.depth] at hd
    have hp := pow2 s
    show (Pic.q (b.turn 4) (a.turn 4) (d.turn 4) (c.turn 4)).cell (s + 1) x y = _
    simp only [Pic.cell, Nat.add_sub_cancel]
    rcases half_of hp hx0 hx1 with ⟨x1, x2, x3⟩ | ⟨x1, x2, x3⟩ <;> rcases half_of hp hy0 hy1 with ⟨y1, y2, y3⟩ | ⟨y1, y2, y3⟩ <;>
      rcases half_of (x := 2 * 2 ^ s - 1 - x) hp (by omega) (by omega) with ⟨z1, z2, z3⟩ | ⟨z1, z2, z3⟩ <;> try omega
    · rw [x1, x2, y1, y2, z1, z2]
      simp
      rw [cell_mir b s x y (by omega) hx0 (by omega) hy0 (by omega)]
      congr 1; omega
    · rw [x1, x2, y1, y2, z1, z2]
      simp
      rw [cell_mir d s x _ (by omega) hx0 (by omega) (by omega) (by omega)]
      congr 1; omega
    · rw [x1, x2, y1, y2, z1, z2]
      simp
      rw [cell_mir a s _ y (by omega) (by omega) (by omega) hy0 (by omega)]
      congr 1; omega
    · rw [x1, x2, y1, y2, z1, z2]
      simp
      rw [cell_mir c s _ _ (by omega) (by omega) (by omega) (by omega) (by omega)]
      congr 1; omega
/-- where the cell that stands at (x, y) behind the turning came from -/
def fromI : Nat → Int → Int × Int → Int × Int
  | 0, n, p => p
  | k + 1, n, p => let r := fromI k n p; (r.2, n - 1 - r.1)
def fromT (t n x y : Int) : Int × Int := let r := fromI (t % 4).toNat n (x, y); if 3 < t then (n - 1 - r.1, r.2) else r
theorem fromI_rg (n : Int) : ∀ (k : Nat) (p : Int × Int), 0 ≤ p.1 → p.1 < n → 0 ≤ p.2 → p.2 < n → (0 ≤ (fromI k n p).1 ∧ (fromI k n p).1 < n) ∧ 0 ≤ (fromI k n p).2 ∧ (fromI k n p).2 < n
  | 0, p, a, b, c, d => ⟨⟨a, b⟩, c, d⟩
  | k + 1, p, a, b, c, d => by
    obtain ⟨⟨h1, h2⟩, h3, h4⟩ := fromI_rg n k p a b c d
    simp only [fromI]
    refine ⟨⟨h3, h4⟩, ?_, ?_⟩ <;> omega
theorem fromT_rg {t n x y : Int} (a : 0 ≤ x) (b : x < n) (c : 0 ≤ y) (d : y < n) : (0 ≤ (fromT t n x y).1 ∧ (fromT t n x y).1 < n) ∧ 0 ≤ (fromT t n x y).2 ∧ (fromT t n x y).2 < n := by
  obtain ⟨⟨h1, h2⟩, h3, h4⟩ := fromI_rg n (t % 4).toNat (x, y) a b c d
  simp only [fromT]
  split
  · refine ⟨⟨?_, ?_⟩, h3, h4⟩ <;> simp <;> omega
  · exact ⟨⟨h1, h2⟩, h3, h4⟩
theorem cell_turn {t : Int} (h0 : 0 ≤ t) (h8 : t < 8) (P : Pic) (s : Nat) (x y : Int) (hd : P.depth ≤ s) (a : 0 ≤ x) (b : x < 2 ^ s) (c : 0 ≤ y) (d : y < 2 ^ s) :
    (P.turn t).cell s x y = P.cell s (fromT t (2 ^ s) x y).1 (fromT t (2 ^ s) x y).2 := by
  have r1 : ∀ {u : Int}, 0 ≤ u → u < 8 → ∀ {x y : Int}, 0 ≤ x → x < 2 ^ s → 0 ≤ y → y < 2 ^ s → (P.turn (afterI u 1)).cell s x y = (P.turn u).cell s y (2 ^ s - 1 - x) := fun {u} u0 u8 {x y} a b c d => by
    rw [← turn_turn u0 u8 (by decide) (by decide), cell_rot _ s x y (by rw [turn_depth u0 u8]; exact hd) a b c d]
  have t1 : ∀ {x y : Int}, 0 ≤ x → x < 2 ^ s → 0 ≤ y → y < 2 ^ s → (P.turn 1).cell s x y = P.cell s y (2 ^ s - 1 - x) := fun {x y} a b c d => cell_rot P s x y hd a b c d
  have t2 : ∀ {x y : Int}, 0 ≤ x → x < 2 ^ s → 0 ≤ y → y < 2 ^ s → (P.turn 2).cell s x y = P.cell s (2 ^ s - 1 - x) (2 ^ s - 1 - y) := fun {x y} a b c d => by
    have := r1 (u := 1) (by decide) (by decide) a b c d
    rw [show afterI 1 1 = 2 from by decide] at this
    rw [this, t1 c d (by omega) (by omega)]
  have t3 : ∀ {x y : Int}, 0 ≤ x → x < 2 ^ s → 0 ≤ y → y < 2 ^ s → (P.turn 3).cell s x y = P.cell s (2 ^ s - 1 - y) x := fun {x y} a b c d => by
    have := r1 (u := 2) (by decide) (by decide) a b c d
    rw [show afterI 2 1 = 3 from by decide] at this
    rw [this, t2 c d (by omega) (by omega)]
    congr 1; omega
  have t4 : ∀ {x y : Int}, 0 ≤ x → x < 2 ^ s → 0 ≤ y → y < 2 ^ s → (P.turn 4).cell s x y = P.cell s (2 ^ s - 1 - x) y := fun {x y} a b c d => cell_mir P s x y hd a b c d
  have t5 : ∀ {x y : Int}, 0 ≤ x → x < 2 ^ s → 0 ≤ y → y < 2 ^ s → (P.turn 5).cell s x y = P.cell s (2 ^ s - 1 - y) (2 ^ s - 1 - x) := fun {x y} a b c d => by
    have := r1 (u := 4) (by decide) (by decide) a b c d
    rw [show afterI 4 1 = 5 from by decide] at this
    rw [this, t4 c d (by omega) (by omega)]
  have t6 : ∀ {x y : Int}, 0 ≤ x → x < 2 ^ s → 0 ≤ y → y < 2 ^ s → (P.turn 6).cell s x y = P.cell s x (2 ^ s - 1 - y) := fun {x y} a b c d => by
    have := r1 (u := 5) (by decide) (by decide) a b c d
    rw [show afterI 5 1 = 6 from by decide] at this
    rw [this, t5 c d (by omega) (by omega)]
    congr 1; omega
  have t7 : ∀ {x y : Int}, 0 ≤ x → x < 2 ^ s → 0 ≤ y → y < 2 ^ s → (P.turn 7).cell s x y = P.cell s y x := fun {x y} a b c d => by
    have := r1 (u := 6) (by decide) (by decide) a b c d
    rw [show afterI 6 1 = 7 from by decide] at this
    rw [this, t6 c d (by omega) (by omega)]
    congr 1; omega
  rcases eight h0 h8 with rfl | rfl | rfl | rfl | rfl | rfl | rfl | rfl
  · rw [turn_zero]; rfl
  · exact t1 a b c d
  · exact t2 a b c d
  · rw [t3 a b c d]; simp [fromT, fromI]; congr 1; omega
  · exact t4 a b c d
  · rw [t5 a b c d]; simp [fromT, fromI]
  · rw [t6 a b c d]; simp [fromT, fromI]; congr 1; omega
  · rw [t7 a b c d]; simp [fromT, fromI]; congr 1 <;> omega
/-! ### a base of the pictures: each is one of bs, turned -/
def Base (bs ps : List Pic) : Prop := ∀ P ∈ ps, ∃ B ∈ bs, ∃ t : Int, (0 ≤ t ∧ t < 8) ∧ P = B.turn t
theorem Base.turn {bs ps : List Pic} (h : Base bs ps) {P : Pic} (hP : P ∈ ps) {t : Int} (h0 : 0 ≤ t) (h8 : t < 8) : ∃ B ∈ bs, ∃ u : Int, (0 ≤ u ∧ u < 8) ∧ P.turn t = B.turn u := by
  obtain ⟨B, hB, u, ⟨u0, u8⟩, rfl⟩ := h P hP
  exact ⟨B, hB, afterI u t, after_rg u0 u8 h0 h8, turn_turn u0 u8 h0 h8 B⟩
theorem Base.mono {bs cs ps : List Pic} (h : Base bs ps) (s : ∀ B ∈ bs, B ∈ cs) : Base cs ps := fun P hP => by
  obtain ⟨B, hB, r⟩ := h P hP
  exact ⟨B, s B hB, r⟩
theorem Base.len {bs ps : List Pic} (h : Base bs ps) (nd : ps.Nodup) : ps.length ≤ 8 * bs.length := by
  have e := nodup_sub (m := bs.flatMap fun B => (List.range 8).map fun t : Nat => B.turn ((t : Nat) : Int)) nd fun P hP => by
    obtain ⟨B, hB, t, ⟨t0, t8⟩, rfl⟩ := h P hP
    simp only [List.mem_flatMap, List.mem_range, List.mem_map]
    exact ⟨B, hB, t.toNat, by omega, by rw [Int.toNat_of_nonneg t0]⟩
  have e2 : ∀ l : List Pic, (l.flatMap fun B => (List.range 8).map fun t : Nat => B.turn ((t : Nat) : Int)).length = 8 * l.length := by
    intro l
    induction l with
    | nil => rfl
    | cons x l ih => rw [List.flatMap_cons, List.length_append, ih, List.length_map, List.length_range, List.length_cons]; omega
  rw [e2] at e
  exact e
theorem Base.add {bs ps : List Pic} (h : Base bs ps) {P : Pic} (hP : ∃ B ∈ bs, ∃ t : Int, (0 ≤ t ∧ t < 8) ∧ P = B.turn t) : Base bs (addP ps P) := fun Q hQ => by
  rcases addP_sub hQ with z | z
  · exact h Q z
  · rw [z]; exact hP
theorem Base.app {bs ps qs : List Pic} (h : Base bs (ps ++ qs)) : Base bs ps := fun P hP => h P (List.mem_append_left _ hP)
/-! ### the table of the turned -/
theorem putK_keys {κ : Type} [DecidableEq κ] (kvs : List (κ × V)) (k : κ) (v : V) : (putK kvs k v).map (·.1) = if (valV kvs k).isSome then kvs.map (·.1) else kvs.map (·.1) ++ [k] := by
  unfold putK
  rw [valV_any]
  split
  · rw [List.map_map]
    apply List.map_congr_left
    intro kv _
    simp only [Function.comp]
    split <;> rfl
  · simp
theorem valV_mem {κ : Type} [DecidableEq κ] {kvs : List (κ × V)} {k : κ} (h : valV kvs k = none) : k ∉ kvs.map (·.1) := by
  intro hk
  obtain ⟨kv, h1, h2⟩ := List.mem_map.mp hk
  have : (kvs.any fun kv => decide (kv.1 = k)) = true := List.any_eq_true.mpr ⟨kv, h1, by simpa using h2⟩
  rw [valV_any, h] at this
  cases this
theorem WhOk.put {ps : List Pic} {wh : List (List Key × V)} (h : WhOk ps wh) {f t : Int} {P : Pic} (hP : IsF ps f P) (h0 : 0 ≤ t) (h8 : t < 8) (hm : P.turn t ∈ ps) : WhOk ps (putK wh [.inl f, .inl t] (.int (ix ps (P.turn t) : Nat))) where
  val := fun f' t' v e => by
    rw [valV_put] at e
    split at e
    · rename_i hk
      injection hk with k1 k2
      injection k2 with k2 _
      injection k1 with k1
      injection k2 with k2
      subst k1 k2
      exact ⟨P, hP, hm, (Option.some.inj e).symm⟩
    · exact h.val f' t' v e
  nd := by
    rw [putK_keys]
    cases q : valV wh [.inl f, .inl t] with
    | some v => simpa [q] using h.nd
    | none =>
      simp only [Option.isSome_none, Bool.false_eq_true, if_false]
      rw [List.nodup_append]
      refine ⟨h.nd, by simp, fun a ha b hb => ?_⟩
      simp only [List.mem_singleton] at hb
      subst hb
      exact fun z => valV_mem q (z ▸ ha)
  keys := fun k hk => by
    rw [putK_keys] at hk
    have new : ∃ i u : Nat, i < ps.length ∧ u < 8 ∧ ([.inl f, .inl t] : List Key) = [.inl (i : Int), .inl (u : Int)] := by
      refine ⟨f.toNat, t.toNat, by have := hP.1; have := hP.lt; omega, by omega, ?_⟩
      rw [Int.toNat_of_nonneg hP.1, Int.toNat_of_nonneg h0]
    split at hk
    · exact h.keys k hk
    · rcases List.mem_append.mp hk with z | z
      · exact h.keys k z
      · simp only [List.mem_singleton] at z
        subst z
        exact new
section
variable {C : Addr} {H H' : Hp} {p : Addr} {A : FA} {D : Addr → Prop} {ps : List Pic}
theorem Keep.setNew {F : Addr → Prop} {a : Addr} {o : HO} (h : Keep F H H') (f : H a = none) : Keep F H (upd H' a o) := fun b u e n => by
  rw [upd_ne (ne_of_none e f)]; exact h b u e n
theorem FacesAt.whirlSet (h : FacesAt C H p A D ps) {wh wh' : List (List Key × V)} (hw : H A.w = some (.dT wh)) (ok : WhOk ps wh') : FacesAt C (upd H A.w (.dT wh')) p A D ps := by
  have pf := foot_p h
  obtain ⟨⟨dx, ob⟩, ⟨ns, n1, n2, n3⟩, dd, ⟨ss, s1, s2, s3⟩, ⟨kvs, k1, k2⟩, ⟨wh0, w1, w2⟩, inv, dp, df, ex, ap1, ap2, ap3, ap4⟩ := h
  refine ⟨⟨dx, by rw [upd_ne (fun z => pf (by rw [z]; exact .inr (.inr (.inr (.inr rfl)))))]; exact ob⟩, ⟨ns, by rw [upd_ne (ne_of n1 hw (by intro z; cases z))]; exact n1, n2, fun i a P e1 e2 => ⟨(n3 i a P e1 e2).1, by
    rw [upd_ne (ne_of (n3 i a P e1 e2).2 hw (by intro z; cases z))]; exact (n3 i a P e1 e2).2⟩⟩, by rw [upd_ne (ne_of dd hw (by intro z; cases z))]; exact dd, ⟨ss, by rw [upd_ne (ne_of s1 hw (by intro z; cases z))]; exact s1, s2, fun i a P e1 e2 => ⟨(s3 i a P e1 e2).1, (s3 i a P e1 e2).2.1, by
    rw [upd_ne (ne_of (s3 i a P e1 e2).2.2 hw (by intro z; cases z))]; exact (s3 i a P e1 e2).2.2⟩⟩, ⟨kvs, by rw [upd_ne ap4]; exact k1, k2⟩, ⟨wh', upd_same, ok⟩, inv, dp, df, fun b hb => upd_ex (ex b hb), ap1, ap2, ap3, ap4⟩
/-- .. with more pictures, all out of the base -/
def AfterX (C : Addr) (H : Hp) (p : Addr) (A : FA) (D : Addr → Prop) (bs ps : List Pic) (R : List Pic → Hp → Prop) : Prop := ∀ qs, Base bs (ps ++ qs) → After C H p A D (ps ++ qs) (R (ps ++ qs))
end
theorem z_while {c : TT} {tb : TS} {D : Ends} {σ : L2.St} {H : Hp} (Pv : Nat → L2.St → Hp → Prop) (m0 : Nat) (h0 : Pv m0 σ H)
    (hs : ∀ m σ H, Pv m σ H → c σ H fun b H1 => if b = true then ∃ N : L2.St → Hp → Prop, (∀ σ' H', N σ' H' → ∃ m', m' < m ∧ Pv m' σ' H') ∧ tb { D with nx := N, ct := N, bk := D.nx } σ H1 else D.nx σ H1) : tWhile c tb D σ H := ⟨Pv, ⟨m0, h0⟩, hs⟩
theorem divW {i j : Int} (h0 : 0 < j) (h1 : j < 1000000000000) : CDivW i j := ⟨h0, Nat.lt_of_lt_of_le ((Nat.log2_lt (k := 40) (by omega)).mpr (by omega)) (by decide)⟩
theorem pow2_le {s n : Nat} (h : s ≤ n) : (2 : Int) ^ s ≤ 2 ^ n := by
  have e1 : (2 : Int) ^ n = 2 ^ s * 2 ^ (n - s) := by rw [← Int.pow_add]; congr 1; omega
  have h1 : (1 : Int) ≤ 2 ^ (n - s) := by have := pow2 (n - s); omega
  have h2 := Int.mul_le_mul_of_nonneg_left h1 (Int.le_of_lt (pow2 s))
  rw [e1]; omega
theorem szbig {n : Nat} (h : n < 16000000) : n < sizeLine := Nat.lt_of_lt_of_le h (by decide)
theorem k_pgl {X : Cx} {es : List Expr} {pos : Pos} {k : Nat} {tt : TGs} {n : Nat} (K : PySem.W.Frag) (hc : X.calm = true) (h : PGs X es tt) (hK : X.K = K := by rfl)
    (hn : (assignEach es X.env).length = n := by rfl) (hst : (assignEach es X.env).findIdx? (·.1) = none := by rfl) : PG X (.Tuple es k pos) (gLst K n tt) := by subst hK; exact pg_lst hc h hn hst
theorem z_gLst {K : PySem.W.Frag} {σ : L2.St} {H : Hp} {GQ : L2.St → Hp → Prop} {n : Nat} {t : TGs} {a : Addr} {xs : List V} (h : SqL K H a xs) (e : xs.length = n) (k : t xs σ H GQ) : gLst K n t (.ref a) σ H GQ := ⟨a, xs, rfl, h, e, k⟩
end Mur
/-! The laws' own nodes of pictures. -/
namespace Mur
open PySem hiding start
open PySem.Spec L2
open PyProof.Rows hiding St
/-! data of tuples alone stay wherever the tuples stay -/
mutual
def flat : PyData → Bool
  | .list _ => false
  | .tuple ds => flatAll ds
  | _ => true
def flatAll : List PyData → Bool
  | [] => true
  | d :: ds => flat d && flatAll ds
end
mutual
theorem dv_stay {H H' : Hp} (k : ∀ a xs, H a = some (.tup xs) → H' a = some (.tup xs)) : ∀ {d : PyData} {v : V}, flat d = true → Dv H v d → Dv H' v d
  | _, _, _, .non => .non
  | _, _, _, .bl b => .bl b
  | _, _, _, .int i => .int i
  | _, _, _, .str x => .str x
  | _, _, f, .lst h a => by simp [flat] at f
  | _, _, f, .tup h a => .tup (k _ _ h) (dvAll_stay k (by simpa [flat] using f) a)
theorem dvAll_stay {H H' : Hp} (k : ∀ a xs, H a = some (.tup xs) → H' a = some (.tup xs)) : ∀ {ds : List PyData} {vs : List V}, flatAll ds = true → DvAll H vs ds → DvAll H' vs ds
  | _, _, _, .nil => .nil
  | _, _, f, .cons h t => by
    simp only [flatAll, Bool.and_eq_true] at f
    exact .cons (dv_stay k f.1 h) (dvAll_stay k f.2 t)
end
theorem DvAll.snoc {H : Hp} {v : V} {d : PyData} (hv : Dv H v d) : ∀ {vs : List V} {ds : List PyData}, DvAll H vs ds → DvAll H (vs ++ [v]) (ds ++ [d])
  | _, _, .nil => .cons hv .nil
  | _, _, .cons h t => .cons h (DvAll.snoc hv t)
theorem flat_mem : ∀ {ds : List PyData} {d : PyData}, flatAll ds = true → d ∈ ds → flat d = true
  | [], d, _, h => by simp at h
  | e :: ds, d, f, h => by
    simp only [flatAll, Bool.and_eq_true] at f
    rcases List.mem_cons.mp h with rfl | h
    · exact f.1
    · exact flat_mem f.2 h
theorem tup_upd {H : Hp} {l : Addr} {xs : List V} {o : HO} (h : H l = some (.lst xs)) : ∀ a ys, H a = some (.tup ys) → upd H l o a = some (.tup ys) := fun a ys e => by
  rw [upd_ne (ne_of e h (by intro z; cases z))]; exact e
theorem Keep.tup {C : Addr} {H H' : Hp} {p : Addr} {A : FA} {D : Addr → Prop} {ps : List Pic} (h : FacesAt C H p A D ps) (k : Keep A.foot H H') : ∀ a ys, H a = some (.tup ys) → H' a = some (.tup ys) := fun a ys e => k _ _ e (foot_tup h e)
/-! rows of figures -/
def zsI (b : Int) : Nat → Int → Int
  | 0, z => z
  | j + 1, z => zsI b j z / b
def tsI : Nat → Int → Int
  | 0, t => t
  | j + 1, t => (tsI j t * 48271 + 9973 * (j : Int) + 11) % 2147483647
def absI (z : Int) : Int := if z < 0 then -z else z
def rowI (z : Int) (m : Nat) (b : Int) : List Int :=
  if (1000000000000000000 : Int) ≤ absI z then (List.range m).map fun j : Nat => zsI b j (absI z) % b
  else (List.range m).map fun j : Nat => tsI (j + 1) ((absI z % 1000003 + 17) * 69621 % 2147483647) / 1021 % b
theorem row_len (z : Int) (m : Nat) (b : Int) : (rowI z m b).length = m := by
  unfold rowI
  by_cases h : (1000000000000000000 : Int) ≤ absI z
  · rw [if_pos h]; simp
  · rw [if_neg h]; simp
theorem row_rg {z : Int} {m : Nat} {b : Int} (hb : 0 < b) : ∀ x ∈ rowI z m b, 0 ≤ x ∧ x < b := by
  intro x hx
  unfold rowI at hx
  by_cases h : (1000000000000000000 : Int) ≤ absI z
  · rw [if_pos h] at hx
    obtain ⟨j, _, rfl⟩ := List.mem_map.mp hx
    exact ⟨Int.emod_nonneg _ (by omega), Int.emod_lt_of_pos _ hb⟩
  · rw [if_neg h] at hx
    obtain ⟨j, _, rfl⟩ := List.mem_map.mp hx
    exact ⟨Int.emod_nonneg _ (by omega), Int.emod_lt_of_pos _ hb⟩
theorem row_get {z : Int} {m : Nat} {b : Int} {i : Nat} (h : i < m) : (rowI z m b)[i]? = some ((rowI z m b).getD i 0) := by
  rw [List.getD_eq_getElem?_getD, List.getElem?_eq_getElem (by rw [row_len]; exact h)]; rfl
theorem row_getrg {z : Int} {m : Nat} {b : Int} (hb : 0 < b) {i : Nat} (h : i < m) : 0 ≤ (rowI z m b).getD i 0 ∧ (rowI z m b).getD i 0 < b := row_rg hb _ (List.mem_of_getElem? (row_get h))
theorem atI_row {z : Int} {m : Nat} {b : Int} {i : Nat} {k : Int} (h : i < m) (e : k = (i : Nat)) : atI ((rowI z m b).map V.int) k = some (.int ((rowI z m b).getD i 0)) := atI_of (by rw [List.getElem?_map, row_get h]; rfl) e
theorem ts_rg {t : Int} (h0 : 0 ≤ t) (h1 : t < 2147483647) : ∀ j, 0 ≤ tsI j t ∧ tsI j t < 2147483647
  | 0 => ⟨h0, h1⟩
  | j + 1 => ⟨Int.emod_nonneg _ (by decide), Int.emod_lt_of_pos _ (by decide)⟩
def pickI (f o m : Int) : Int := if f % 2 = 0 ∧ 10 < m then (if m - 1 - o % 4 > 10 then m - 1 - o % 4 else 10) else o
theorem pick_rg {f o m : Int} (h0 : 0 ≤ o) (h1 : o < 10) (hm : 10 ≤ m) : 0 ≤ pickI f o m ∧ pickI f o m < m := by
  unfold pickI
  split
  · split <;> omega
  · omega
def quI (z m : Int) : List (Int × Int) := (List.range 4).map fun k : Nat => (pickI ((rowI z 12 10).getD (3 * k) 0) ((rowI z 12 10).getD (3 * k + 1) 0) m, (rowI z 12 10).getD (3 * k + 2) 0 % 8)
def pairD (x : Int × Int) : PyData := .tuple [.int x.1, .int x.2]
theorem qu_len (z m : Int) : (quI z m).length = 4 := by simp [quI]
theorem qu_rg {z m : Int} (hm : 10 ≤ m) : ∀ x ∈ quI z m, (0 ≤ x.1 ∧ x.1 < m) ∧ 0 ≤ x.2 ∧ x.2 < 8 := by
  intro x hx
  simp only [quI, List.mem_map, List.mem_range] at hx
  obtain ⟨k, hk, rfl⟩ := hx
  have h1 := row_getrg (z := z) (m := 12) (b := 10) (by decide) (i := 3 * k + 1) (by omega)
  exact ⟨pick_rg h1.1 h1.2 hm, Int.emod_nonneg _ (by decide), Int.emod_lt_of_pos _ (by decide)⟩
theorem flat_pairs : ∀ l : List (Int × Int), flatAll (l.map pairD) = true
  | [] => rfl
  | x :: l => by simp [flatAll, flat, pairD, flat_pairs l]
/-! nodes -/
inductive Nd where
  | pl (c : Int)
  | qu (l : List (Int × Int))
def Nd.data : Nd → PyData
  | .pl c => .tuple [.int c]
  | .qu l => .tuple (l.map pairD)
theorem Nd.flat (n : Nd) : Mur.flat n.data = true := by
  cases n with
  | pl c => rfl
  | qu l => exact flat_pairs l
/-- the picture that (i, t) names -/
def atP (Ps : List Pic) (x : Int × Int) : Pic := (Ps.getD x.1.toNat (.p 0)).turn x.2
/-- nodes and their pictures -/
def NdIs (Ps : List Pic) (P : Pic) : Nd → Prop
  | .pl c => P = .p c
  | .qu l => ∃ a b c d : Int × Int, l = [a, b, c, d] ∧ P = .q (atP Ps a) (atP Ps b) (atP Ps c) (atP Ps d) ∧ ∀ x ∈ l, (0 ≤ x.1 ∧ x.1 < Ps.length) ∧ 0 ≤ x.2 ∧ x.2 < 8
theorem atP_app {Ps Qs : List Pic} {x : Int × Int} (h : 0 ≤ x.1 ∧ x.1 < Ps.length) : atP (Ps ++ Qs) x = atP Ps x := by
  have : x.1.toNat < Ps.length := by omega
  simp only [atP, List.getD_eq_getElem?_getD]
  rw [List.getElem?_append_left this]
theorem NdIs.app {Ps Qs : List Pic} {P : Pic} {n : Nd} (h : NdIs Ps P n) : NdIs (Ps ++ Qs) P n := by
  cases n with
  | pl c => exact h
  | qu l =>
    obtain ⟨a, b, c, d, rfl, rfl, hr⟩ := h
    refine ⟨a, b, c, d, rfl, ?_, fun x hx => ?_⟩
    · rw [atP_app (hr a (by simp)).1, atP_app (hr b (by simp)).1, atP_app (hr c (by simp)).1, atP_app (hr d (by simp)).1]
    · have := hr x hx
      refine ⟨⟨this.1.1, ?_⟩, this.2⟩
      have := this.1.2
      simp; omega
theorem atP_get {Ps : List Pic} {x : Int × Int} (h : 0 ≤ x.1 ∧ x.1 < Ps.length) : ∃ P, Ps[x.1.toNat]? = some P ∧ atP Ps x = P.turn x.2 := by
  have hl : x.1.toNat < Ps.length := by omega
  exact ⟨Ps[x.1.toNat], List.getElem?_eq_getElem hl, by simp [atP, hl]⟩
/-- the lists nodes_here, deeps, told -/
structure NodesL (H : Hp) (nl : Addr) (Ps : List Pic) (nds : List Nd) : Prop where
  len : nds.length = Ps.length
  lst : ∃ vs, H nl = some (.lst vs) ∧ DvAll H vs (nds.map Nd.data)
  is : ∀ (i : Nat) (P : Pic) (n : Nd), Ps[i]? = some P → nds[i]? = some n → NdIs (Ps.take i) P n
theorem flat_nds : ∀ l : List Nd, flatAll (l.map Nd.data) = true
  | [] => rfl
  | x :: l => by simp [flatAll, x.flat, flat_nds l]
theorem NodesL.stay {H H' : Hp} {nl : Addr} {Ps : List Pic} {nds : List Nd} (h : NodesL H nl Ps nds) (k : ∀ a xs, H a = some (.tup xs) → H' a = some (.tup xs)) (kl : ∀ vs, H nl = some (.lst vs) → H' nl = some (.lst vs)) : NodesL H' nl Ps nds := by
  obtain ⟨l, ⟨vs, h1, h2⟩, h3⟩ := h
  exact ⟨l, ⟨vs, kl _ h1, dvAll_stay k (flat_nds nds) h2⟩, h3⟩
theorem NodesL.same {H H' : Hp} {nl : Addr} {Ps : List Pic} {nds : List Nd} (h : NodesL H nl Ps nds) (s : Same H H') : NodesL H' nl Ps nds := h.stay (fun a xs e => s _ _ e) fun vs e => s _ _ e
theorem DvAll.at {H : Hp} : ∀ {ds : List PyData} {vs : List V} {i : Nat} {d : PyData}, DvAll H vs ds → ds[i]? = some d → ∃ v, vs[i]? = some v ∧ Dv H v d
  | _, _, _, _, .nil, e => by simp at e
  | _, _, 0, _, .cons h _, e => by simp at e; subst e; exact ⟨_, rfl, h⟩
  | _, _, i + 1, d, .cons _ t, e => by
    obtain ⟨v, h1, h2⟩ := DvAll.at (i := i) (d := d) t (by simpa using e)
    exact ⟨v, by simpa using h1, h2⟩
/-- the node at i, read in the heap -/
theorem NodesL.get2 {H : Hp} {nl : Addr} {Ps : List Pic} {nds : List Nd} (h : NodesL H nl Ps nds) {i : Nat} {P : Pic} (hP : Ps[i]? = some P) :
    ∃ vs q xs n, H nl = some (.lst vs) ∧ vs.length = Ps.length ∧ vs[i]? = some (.ref q) ∧ H q = some (.tup xs) ∧ NdIs Ps P n ∧ Dv H (.ref q) n.data ∧
      ((∃ c, n = .pl c ∧ P = .p c ∧ xs = [.int c]) ∨ ∃ a b c d : Int × Int, n = .qu [a, b, c, d] ∧ P = .q (atP Ps a) (atP Ps b) (atP Ps c) (atP Ps d) ∧ (∀ x ∈ [a, b, c, d], (0 ≤ x.1 ∧ x.1 < Ps.length) ∧ 0 ≤ x.2 ∧ x.2 < 8) ∧ xs.length = 4 ∧ DvAll H xs [pairD a, pairD b, pairD c, pairD d] ∧ ∀ x ∈ [a, b, c, d], x.1 < i) := by
  obtain ⟨hl, ⟨vs, h1, h2⟩, h3⟩ := h
  have hi : i < nds.length := by have := (List.getElem?_eq_some_iff.mp hP).1; omega
  have hn : nds[i]? = some nds[i] := List.getElem?_eq_getElem hi
  have his0 := h3 i P _ hP hn
  have his : NdIs Ps P nds[i] := by
    have h := his0.app (Qs := Ps.drop i)
    rw [List.take_append_drop] at h
    exact h
  obtain ⟨v, e1, e2⟩ := DvAll.at (i := i) (d := nds[i].data) h2 (by rw [List.getElem?_map, hn]; rfl)
  have hlen := h2.len
  rw [List.length_map, hl] at hlen
  generalize nds[i] = n at his0 his e2
  cases n with
  | pl c =>
    obtain rfl : P = .p c := his
    cases e2 with
    | @tup q xs _ hq ha =>
    cases ha with
    | cons g t =>
      cases t
      cases g
      exact ⟨vs, q, _, .pl c, h1, hlen, e1, hq, rfl, .tup hq (.cons (.int c) .nil), .inl ⟨c, rfl, rfl, rfl⟩⟩
  | qu l =>
    obtain ⟨a, b, c, d, rfl, rfl, hr⟩ := his
    cases e2 with
    | @tup q xs _ hq ha =>
      exact ⟨vs, q, xs, .qu [a, b, c, d], h1, hlen, e1, hq, ⟨a, b, c, d, rfl, rfl, hr⟩, .tup hq ha, .inr ⟨a, b, c, d, rfl, rfl, hr, ha.len, ha, fun x hx => by
        obtain ⟨a', b', c', d', e1, _, hr0⟩ := his0
        have h := (hr0 x hx).1.2
        rw [List.length_take] at h
        omega⟩⟩
theorem NodesL.get {H : Hp} {nl : Addr} {Ps : List Pic} {nds : List Nd} (h : NodesL H nl Ps nds) {i : Nat} {P : Pic} (hP : Ps[i]? = some P) :
    ∃ vs q xs n, H nl = some (.lst vs) ∧ vs.length = Ps.length ∧ vs[i]? = some (.ref q) ∧ H q = some (.tup xs) ∧ NdIs Ps P n ∧ Dv H (.ref q) n.data ∧
      ((∃ c, n = .pl c ∧ P = .p c ∧ xs = [.int c]) ∨ ∃ a b c d : Int × Int, n = .qu [a, b, c, d] ∧ P = .q (atP Ps a) (atP Ps b) (atP Ps c) (atP Ps d) ∧ (∀ x ∈ [a, b, c, d], (0 ≤ x.1 ∧ x.1 < Ps.length) ∧ 0 ≤ x.2 ∧ x.2 < 8) ∧ xs.length = 4 ∧ DvAll H xs [pairD a, pairD b, pairD c, pairD d]) := by
  obtain ⟨vs, q, xs, n, h1, h2, h3, h4, h5, h6, h7⟩ := h.get2 hP
  refine ⟨vs, q, xs, n, h1, h2, h3, h4, h5, h6, ?_⟩
  rcases h7 with h7 | ⟨a, b, c, d, e1, e2, e3, e4, e5, _⟩
  · exact .inl h7
  · exact .inr ⟨a, b, c, d, e1, e2, e3, e4, e5⟩
theorem pair_of {H : Hp} {v : V} {x : Int × Int} (h : Dv H v (pairD x)) : ∃ q, v = .ref q ∧ H q = some (.tup [.int x.1, .int x.2]) := by
  cases h with
  | @tup q xs _ hq ha =>
  cases ha with
  | cons g t =>
  cases g
  cases t with
  | cons g2 t2 =>
  cases g2
  cases t2
  exact ⟨q, rfl, hq⟩
/-! the whole stand: the store and the three lists -/
structure Stand (C : Addr) (H : Hp) (p : Addr) (A : FA) (D : Addr → Prop) (ps : List Pic) (nl dl tl : Addr) (Ps : List Pic) (nds : List Nd) : Prop where
  F : FacesAt C H p A D ps
  N : NodesL H nl Ps nds
  dp : H dl = some (.lst (Ps.map fun P => V.int (P.depth : Nat)))
  td : H tl = some (.lst (Ps.map fun P => V.int (ix ps P : Nat)))
  mem : ∀ P ∈ Ps, P ∈ ps
  base : Base Ps ps
  nn : ¬ D nl
  nd : ¬ D dl
  nt : ¬ D tl
  d1 : nl ≠ dl
  d2 : nl ≠ tl
  d3 : dl ≠ tl
  ten : 10 ≤ Ps.length
section
variable {C : Addr} {H H' : Hp} {p : Addr} {A : FA} {D D' : Addr → Prop} {ps qs : List Pic} {nl dl tl : Addr} {Ps : List Pic} {nds : List Nd}
theorem Stand.same (h : Stand C H p A D ps nl dl tl Ps nds) (s : Same H H') : Stand C H' p A D ps nl dl tl Ps nds :=
  ⟨h.F.same s, h.N.same s, s _ _ h.dp, s _ _ h.td, h.mem, h.base, h.nn, h.nd, h.nt, h.d1, h.d2, h.d3, h.ten⟩
theorem fresh_not {b : Addr} {o : HO} (e : H b = some o) (n : ¬ D b) (d2 : ∀ b, D' b → D b ∨ H b = none) : ¬ D' b := fun z => (d2 b z).elim n fun q => by rw [e] at q; cases q
theorem Stand.after (h : Stand C H p A D ps nl dl tl Ps nds) (kp : Keep A.foot H H') (hF : FacesAt C H' p A D' (ps ++ qs)) (hB : Base Ps (ps ++ qs)) (d2 : ∀ b, D' b → D b ∨ H b = none) : Stand C H' p A D' (ps ++ qs) nl dl tl Ps nds := by
  obtain ⟨_, ⟨vs, hv, _⟩, _⟩ := h.N
  refine ⟨hF, h.N.stay (kp.tup h.F) (fun vs e => kp _ _ e (h.F.ofFoot h.nn)), kp _ _ h.dp (h.F.ofFoot h.nd), ?_, fun P hP => List.mem_append_left _ (h.mem P hP), hB, fresh_not hv h.nn d2, fresh_not h.dp h.nd d2, fresh_not h.td h.nt d2, h.d1, h.d2, h.d3, h.ten⟩
  rw [kp _ _ h.td (h.F.ofFoot h.nt)]
  congr 2
  apply List.map_congr_left
  intro P hP
  rw [ix_app (h.mem P hP)]
theorem Stand.mid (h : Stand C H p A D ps nl dl tl Ps nds) (kp : Keep A.foot H H') (d2 : ∀ b, D' b → D b ∨ H b = none) (qs : List Pic) : NodesL H' nl Ps nds ∧ H' dl = some (.lst (Ps.map fun P => V.int (P.depth : Nat))) ∧ H' tl = some (.lst (Ps.map fun P => V.int (ix (ps ++ qs) P : Nat))) ∧
    (∀ P ∈ Ps, P ∈ ps ++ qs) ∧ ¬ D' nl ∧ ¬ D' dl ∧ ¬ D' tl := by
  obtain ⟨_, ⟨vs, hv, _⟩, _⟩ := h.N
  refine ⟨h.N.stay (kp.tup h.F) (fun vs e => kp _ _ e (h.F.ofFoot h.nn)), kp _ _ h.dp (h.F.ofFoot h.nd), ?_, fun P hP => List.mem_append_left _ (h.mem P hP), fresh_not hv h.nn d2, fresh_not h.dp h.nd d2, fresh_not h.td h.nt d2⟩
  rw [kp _ _ h.td (h.F.ofFoot h.nt)]
  congr 2
  apply List.map_congr_left
  intro P hP
  rw [ix_app (h.mem P hP)]
theorem Stand.updL (h : Stand C H p A D ps nl dl tl Ps nds) {L : Addr} {xs : List V} {o : HO} (hL : H L = some (.lst xs)) (nL : ¬ D L) (e1 : L ≠ nl) (e2 : L ≠ dl) (e3 : L ≠ tl) : Stand C (upd H L o) p A D ps nl dl tl Ps nds :=
  ⟨h.F.keep fun b u hb e => by rw [upd_ne (fun z => nL (by rw [← z]; exact hb))]; exact e, h.N.stay (tup_upd hL) (fun vs e => by rw [upd_ne e1.symm]; exact e), by rw [upd_ne e2.symm]; exact h.dp, by rw [upd_ne e3.symm]; exact h.td, h.mem, h.base, h.nn, h.nd, h.nt, h.d1, h.d2, h.d3, h.ten⟩
theorem back_fresh (hF : FacesAt C H' p A D' ps) (kp : Keep A.foot H H') {b : Addr} (z : H' b = none) : H b = none := by
  cases e : H b with
  | none => rfl
  | some o =>
    by_cases hf : A.foot b
    · obtain ⟨o2, e2⟩ := hF.ex b (hF.df b hf)
      rw [e2] at z; cases z
    · rw [kp b o e hf] at z; cases z
theorem quads_get {xs : List V} {l : List (Int × Int)} (hall : DvAll H xs (l.map pairD)) (hr : ∀ x ∈ l, (0 ≤ x.1 ∧ x.1 < Ps.length) ∧ 0 ≤ x.2 ∧ x.2 < 8) {k : Nat} {v : V} (e : xs[k]? = some v) :
    ∃ (z : Int × Int) (w : Addr) (r : Pic), l[k]? = some z ∧ v = .ref w ∧ H w = some (.tup [.int z.1, .int z.2]) ∧ Ps[z.1.toNat]? = some r ∧ atP Ps z = r.turn z.2 ∧ (0 ≤ z.1 ∧ z.1 < Ps.length) ∧ 0 ≤ z.2 ∧ z.2 < 8 := by
  obtain ⟨dd, e1, e2⟩ := hall.get e
  rw [List.getElem?_map] at e1
  cases e3 : l[k]? with
  | none => rw [e3] at e1; cases e1
  | some z =>
    rw [e3] at e1
    obtain rfl := Option.some.inj e1
    obtain ⟨w, rfl, hw⟩ := pair_of e2
    have hz := hr z (List.mem_of_getElem? e3)
    obtain ⟨r, hr1, hr2⟩ := atP_get hz.1
    exact ⟨z, w, r, rfl, rfl, hw, hr1, hr2, hz.1, hz.2⟩
theorem Stand.push {P : Pic} {n : Nd} {v : V} {vs : List V} (hF : FacesAt C H p A D ps) (hN : NodesL H nl Ps nds) (hd : H dl = some (.lst (Ps.map fun P => V.int (P.depth : Nat)))) (ht : H tl = some (.lst (Ps.map fun P => V.int (ix ps P : Nat)))) (mem : ∀ P ∈ Ps, P ∈ ps)
    (base : Base (Ps ++ [P]) ps) (nn : ¬ D nl) (nd : ¬ D dl) (nt : ¬ D tl) (d1 : nl ≠ dl) (d2 : nl ≠ tl) (d3 : dl ≠ tl) (ten : 10 ≤ Ps.length) (hm : P ∈ ps) (is : NdIs Ps P n) (hv : Dv H v n.data) (hvs : H nl = some (.lst vs)) :
    Stand C (upd (upd (upd H nl (.lst (vs ++ [v]))) dl (.lst ((Ps.map fun P => V.int (P.depth : Nat)) ++ [.int (P.depth : Nat)]))) tl (.lst ((Ps.map fun P => V.int (ix ps P : Nat)) ++ [.int (ix ps P : Nat)]))) p A D ps nl dl tl (Ps ++ [P]) (nds ++ [n]) := by
  obtain ⟨hl, ⟨vs', e1, e2⟩, e3⟩ := hN
  obtain rfl : vs' = vs := by rw [hvs] at e1; injection e1 with e1; injection e1 with e1; exact e1.symm
  have k1 : ∀ a xs, H a = some (.tup xs) → (upd (upd (upd H nl (.lst (vs' ++ [v]))) dl (.lst ((Ps.map fun P => V.int (P.depth : Nat)) ++ [.int (P.depth : Nat)]))) tl (.lst ((Ps.map fun P => V.int (ix ps P : Nat)) ++ [.int (ix ps P : Nat)]))) a = some (.tup xs) := fun a xs e => by
    rw [upd_ne (ne_of e ht (by intro z; cases z)), upd_ne (ne_of e hd (by intro z; cases z)), upd_ne (ne_of e hvs (by intro z; cases z))]; exact e
  refine ⟨?_, ⟨by simp [hl], ⟨vs' ++ [v], by rw [upd_ne d2, upd_ne d1, upd_same], ?_⟩, ?_⟩, by rw [upd_ne d3, upd_same, List.map_append]; rfl, by rw [upd_same, List.map_append]; rfl, ?_, base, nn, nd, nt, d1, d2, d3, by simp; omega⟩
  · refine hF.keep fun b o hb e => ?_
    rw [upd_ne (fun z => nt (by rw [← z]; exact hb)), upd_ne (fun z => nd (by rw [← z]; exact hb)), upd_ne (fun z => nn (by rw [← z]; exact hb))]; exact e
  · rw [List.map_append]
    exact DvAll.snoc (dv_stay k1 n.flat hv) (dvAll_stay k1 (flat_nds nds) e2)
  · intro i P' n' h1 h2
    by_cases hi : i < Ps.length
    · rw [List.getElem?_append_left hi] at h1
      rw [List.getElem?_append_left (by omega)] at h2
      rw [List.take_append_of_le_length (by omega)]
      exact e3 i P' n' h1 h2
    · have hi2 : i = Ps.length := by
        have := (List.getElem?_eq_some_iff.mp h1).1
        simp at this; omega
      subst hi2
      rw [List.getElem?_append_right (Nat.le_refl _)] at h1
      rw [← hl, List.getElem?_append_right (Nat.le_refl _)] at h2
      simp at h1 h2
      subst h1 h2
      rw [List.take_append_of_le_length (Nat.le_refl _), List.take_of_length_le (Nat.le_refl _)]
      exact is
  · intro P' hP'
    rcases List.mem_append.mp hP' with z | z
    · exact mem P' z
    · simp at z; subst z; exact hm
end
def colP : Pic → Int
  | .p c => c
  | _ => 0
theorem keep_seq {K : PySem.W.Frag} {F : Addr → Prop} {H H' : Hp} {a : Addr} {xs : List V} (k : Keep F H H') (f : ∀ b, F b → H b = none) (h : SqL K H a xs) : SqL K H' a xs := by
  rcases h with (h | ⟨o, h⟩) | h
  · exact .inl (.inl (k _ _ h fun z => by rw [f _ z] at h; cases h))
  · exact .inl (.inr ⟨o, k _ _ h fun z => by rw [f _ z] at h; cases h⟩)
  · exact .inr h
theorem cut_ints (ns : List Int) (lo hi : Option Int) : ∃ ms : List Int, cutV (ns.map V.int) lo hi = ms.map V.int ∧ ms.length ≤ ns.length := by
  unfold cutV
  refine ⟨(ns.drop (HT.sIx (ns.map V.int).length 0 lo)).take (HT.sIx (ns.map V.int).length (ns.map V.int).length hi - HT.sIx (ns.map V.int).length 0 lo), by rw [List.map_take, List.map_drop], ?_⟩
  rw [List.length_take, List.length_drop]
  omega
/-- the ten plain pictures -/
def plains (n : Nat) : List Pic := (List.range n).map fun k : Nat => Pic.p (k : Int)
theorem plains_get {n k : Nat} (h : k < n) : (plains n)[k]? = some (.p (k : Int)) := by simp [plains, h]
theorem plains_nodup (n : Nat) : (plains n).Nodup := by
  unfold plains List.Nodup
  rw [List.pairwise_map]
  refine List.Pairwise.imp (fun {a b} h e => h ?_) (List.nodup_range (n := n))
  injection e with e
  omega
theorem plains_add (n : Nat) : addP (plains n) (.p (n : Int)) = plains (n + 1) := by
  have : Pic.p (n : Int) ∉ plains n := by
    simp only [plains, List.mem_map, List.mem_range]
    rintro ⟨k, hk, e⟩
    injection e with e
    omega
  unfold addP
  rw [if_neg this]
  simp [plains, List.range_succ]
theorem plains_ix {n k : Nat} (h : k < n) : ix (plains n) (.p (k : Int)) = k := ix_of (plains_nodup n) (plains_get h)
theorem plains_len (n : Nat) : (plains n).length = n := by simp [plains]
theorem base_plains (n : Nat) : Base (plains n) (plains n) := fun P hP => ⟨P, hP, 0, by decide, (turn_zero P).symm⟩
end Mur
/-! list(zip(one, other)) of two tuples that are equally long: a new list of new pairs. -/
namespace Mur
open PySem hiding start
open PySem.Spec L2
open PyProof.Rows hiding St
theorem zip_no_len0 : typeLookup (.type "zip") "__len__" = pure none := by
  rw [typeLookup_type, builtinLookup_eq_fast]
  kernel_rfl
theorem zip_no_hint0 : typeLookup (.type "zip") "__length_hint__" = pure none := by
  rw [typeLookup_type, builtinLookup_eq_fast]
  kernel_rfl
section
variable {prog : Program} {w : World} {A : Around} {E : Value → Shared → Prop} {s : Shared} {z TI TO i1 i2 l1 l2 : Addr} {us ws : Array Value} {n : Nat}
/-- a zip that has handed out n pairs, the last of which is still held; what it leans on -/
structure ZtAt (h : Heap) (z TI TO i1 i2 l1 l2 : Addr) (us ws : Array Value) (n : Nat) : Prop where
  held : ∃ T f oT, IsZipHeld h z TI TO T f ∧ h.get? T = some oT
  pair : IsPair h TI (.ref i1) (.ref i2)
  it1 : h.IsTupleIter i1 l1 n
  it2 : h.IsTupleIter i2 l2 n
  t1 : h.IsTuple l1 us
  t2 : h.IsTuple l2 ws
/-- the next pair -/
theorem zt_item {x y : Value} {Q : Option Value → Shared → Prop} (D : ZipApart z TI TO i1 i2 l1 l2) (Z : ZtAt s.heap z TI TO i1 i2 l1 l2 us ws n) (hx : us[n]? = some x) (hy : ws[n]? = some y)
    (k : ∀ h', ZtAt h' z TI TO i1 i2 l1 l2 us ws (n + 1) → h'.get? s.heap.objs.size = some { cls := .type "tuple", data := .seq #[x, y] } → h'.objs.size = s.heap.objs.size + 1 →
      (∀ c o, c ≠ z → c ≠ i1 → c ≠ i2 → s.heap.get? c = some o → h'.get? c = some o) → Q (some (.ref s.heap.objs.size)) { s with heap := h' }) : wpAny (model prog w) A (pyNext (.ref z)) Q E s := by
  obtain ⟨⟨T, f, oT, zh, hT⟩, pr, a1, a2, b1, b2⟩ := Z
  have tz : s.TypeIs (.ref z) "zip" := ⟨_, zh, rfl⟩
  unfold pyNext
  refine wpAny_bind (wpAny_attempt (wpAny_callSpecial?_slot (name := Str.ofString "__next__") tz F.slot_zip_next (wpAny_call_entry F.slot_zip_next tz F.entry_zip_next ?_ (F.args_zip_next_1 _))))
  -- strict? no; the iterators; is the tuple free? no
  show wpAny _ _ (field (.ref z) 2 >>= fun _ => _) _ _ _
  refine wpAny_bind (wpAny_field zh rfl (x := Value.bool false) rfl ?_)
  show wpAny _ _ (field (.ref z) 3 >>= fun _ => _) _ _ _
  refine wpAny_bind (wpAny_field zh rfl (x := Value.ref TI) rfl ?_)
  refine wpAny_bind (wpAny_seqItems pr rfl ?_)
  show wpAny _ _ (Builtin.SmallTypes.ownedTupleIsFree (.ref z) >>= fun _ => _) _ _ _
  refine wpAny_bind (wpAny_tupleHeld_zip zh hT fun g1 z1 same1 => ?_)
  simp only [Bool.false_eq_true, if_false]
  refine wpAny_bind ?_
  rw [← Array.forIn_toList]
  simp only [List.forIn_cons, List.forIn_nil]
  -- the first iterator
  refine wpAny_bind (wpAny_bind (wpAny_holding ?_))
  show wpAny _ _ (Builtin.SmallTypes.nextOf (.ref i1) >>= fun _ => _) _ _ _
  refine wpAny_bind (RZ.nextOf_tuple_item (s := { s with heap := g1 }) (a1.extBut same1.extBut D.i1z) (b1.extBut same1.extBut D.l1z) hx fun g2 a1' same2 => wpAny_pure ?_)
  refine wpAny_pure ?_
  -- the second one
  refine wpAny_bind (wpAny_bind (wpAny_holding ?_))
  show wpAny _ _ (Builtin.SmallTypes.nextOf (.ref i2) >>= fun _ => _) _ _ _
  refine wpAny_bind (RZ.nextOf_tuple_item (s := { s with heap := g2 }) ((a2.extBut same1.extBut D.i2z).extBut same2.extBut D.i12.symm) ((b2.extBut same1.extBut D.l2z).extBut same2.extBut D.l2i1) hy fun g3 a2' same3 => wpAny_pure ?_)
  refine wpAny_pure (wpAny_pure ?_)
  show wpAny _ _ (newTuple [x, y] >>= fun _ => _) _ _ _
  refine wpAny_bind (wpAny_newTuple ?_)
  have sz : g3.objs.size = s.heap.objs.size := same3.1.trans (same2.1.trans same1.1)
  have old3 : ∀ c o, c ≠ z → c ≠ i1 → c ≠ i2 → s.heap.get? c = some o → g3.get? c = some o := fun c o n1 n2 n3 e => same3.extBut c o n3 (same2.extBut c o n2 (same1.extBut c o n1 e))
  have z3 : IsZipHeld g3 z TI TO T true := same3.extBut _ _ D.i2z.symm (same2.extBut _ _ D.i1z.symm z1)
  have i13 : g3.IsTupleIter i1 l1 (n + 1) := a1'.extBut same3.extBut D.i12
  have up : ∀ c o, g3.get? c = some o → (g3.push { cls := .type "tuple", data := .seq #[x, y] }).get? c = some o := fun c o e => Heap.get?_push_of_some _ e
  have last : (g3.push { cls := .type "tuple", data := .seq #[x, y] }).get? g3.objs.size = some { cls := .type "tuple", data := .seq #[x, y] } := Heap.get?_push_size _ rfl
  have len4 : (g3.push { cls := .type "tuple", data := .seq #[x, y] }).objs.size = g3.objs.size + 1 := Heap.size_push ..
  have nT : ∃ oT', (g3.push { cls := .type "tuple", data := .seq #[x, y] }).get? T = some oT' := by
    by_cases h1 : T = z
    · exact ⟨_, up _ _ (by rw [h1]; exact z3)⟩
    by_cases h2 : T = i1
    · obtain ⟨o, ho, _⟩ := i13
      exact ⟨o, up _ _ (by rw [h2]; exact ho)⟩
    by_cases h3 : T = i2
    · obtain ⟨o, ho, _⟩ := a2'
      exact ⟨o, up _ _ (by rw [h3]; exact ho)⟩
    · exact ⟨_, up _ _ (old3 _ _ h1 h2 h3 hT)⟩
  obtain ⟨oT', hT'⟩ := nT
  have tup3 : ∀ {c : Addr} {vs : Array Value}, c ≠ z → c ≠ i1 → c ≠ i2 → s.heap.IsTuple c vs → (g3.push { cls := .type "tuple", data := .seq #[x, y] }).IsTuple c vs := fun {c vs} n1 n2 n3 h => by
    obtain ⟨o, ho, r⟩ := h
    exact ⟨o, up _ _ (old3 _ _ n1 n2 n3 ho), r⟩
  refine wpAny_pure ⟨_, rfl, wpAny_pure ?_⟩
  show Q (some (.ref g3.objs.size)) _
  rw [sz] at last len4 ⊢
  refine k _ ⟨⟨T, true, oT', up _ _ z3, hT'⟩, up _ _ (old3 _ _ D.TIz D.TIi1 D.TIi2 pr), i13.at fun o e => up _ _ e, a2'.at fun o e => up _ _ e, tup3 D.l1z D.l1i1 D.l1i2 b1, tup3 D.l2z D.l2i1 D.l2i2 b2⟩ last len4 fun c o n1 n2 n3 e => up _ _ (old3 c o n1 n2 n3 e)
/-- no pair is left -/
theorem zt_end {Q : Option Value → Shared → Prop} (hh : A.handled = none) (D : ZipApart z TI TO i1 i2 l1 l2) (Z : ZtAt s.heap z TI TO i1 i2 l1 l2 us ws n) (hx : us[n]? = none)
    (k : ∀ h', (∀ c o, c ≠ z → c ≠ i1 → c ≠ i2 → s.heap.get? c = some o → h'.get? c = some o) → Q none { s with heap := h' }) : wpAny (model prog w) A (pyNext (.ref z)) Q E s := by
  obtain ⟨⟨T, f, oT, zh, hT⟩, pr, a1, a2, b1, b2⟩ := Z
  have tz : s.TypeIs (.ref z) "zip" := ⟨_, zh, rfl⟩
  unfold pyNext
  refine wpAny_bind (wpAny_attempt (wpAny_callSpecial?_slot (name := Str.ofString "__next__") tz F.slot_zip_next (wpAny_call_entry F.slot_zip_next tz F.entry_zip_next ?_ (F.args_zip_next_1 _))))
  show wpAny _ _ (field (.ref z) 2 >>= fun _ => _) _ _ _
  refine wpAny_bind (wpAny_field zh rfl (x := Value.bool false) rfl ?_)
  show wpAny _ _ (field (.ref z) 3 >>= fun _ => _) _ _ _
  refine wpAny_bind (wpAny_field zh rfl (x := Value.ref TI) rfl ?_)
  refine wpAny_bind (wpAny_seqItems pr rfl ?_)
  show wpAny _ _ (Builtin.SmallTypes.ownedTupleIsFree (.ref z) >>= fun _ => _) _ _ _
  refine wpAny_bind (wpAny_tupleHeld_zip zh hT fun g1 z1 same1 => ?_)
  simp only [Bool.false_eq_true, if_false]
  refine wpAny_bind ?_
  rw [← Array.forIn_toList]
  simp only [List.forIn_cons, List.forIn_nil]
  refine wpAny_bind (wpAny_bind (wpAny_holding ?_))
  show wpAny _ _ (Builtin.SmallTypes.nextOf (.ref i1) >>= fun _ => _) _ _ _
  refine wpAny_bind (RZ.nextOf_tuple_end (s := { s with heap := g1 }) hh (a1.extBut same1.extBut D.i1z) (b1.extBut same1.extBut D.l1z) hx fun g2 e same2 he => ?_)
  obtain ⟨oe, hoe, hce⟩ := he
  refine wpAny_bind (wpAny_isInstance (T := "StopIteration") (b := true) ⟨oe, hoe, hce⟩ isSubtype_stop ?_)
  exact wpAny_pure (k _ fun c o n1 n2 _ q => same2 _ _ n2 (same1.extBut _ _ n1 q))
theorem ZtAt.keep {h h' : Heap} (Z : ZtAt h z TI TO i1 i2 l1 l2 us ws n) (k : ∀ b o, h.get? b = some o → ∃ o', h'.get? b = some o') (e : ∀ b o, b = z ∨ b = TI ∨ b = i1 ∨ b = i2 ∨ b = l1 ∨ b = l2 → h.get? b = some o → h'.get? b = some o) : ZtAt h' z TI TO i1 i2 l1 l2 us ws n := by
  obtain ⟨⟨T, f, oT, zh, hT⟩, pr, a1, a2, ⟨o1, b1, r1⟩, ⟨o2, b2, r2⟩⟩ := Z
  obtain ⟨oT', hT'⟩ := k _ _ hT
  exact ⟨⟨T, f, oT', e _ _ (.inl rfl) zh, hT'⟩, e _ _ (.inr (.inl rfl)) pr, a1.at fun o q => e _ o (.inr (.inr (.inl rfl))) q, a2.at fun o q => e _ o (.inr (.inr (.inr (.inl rfl)))) q, ⟨o1, e _ _ (.inr (.inr (.inr (.inr (.inl rfl))))) b1, r1⟩, ⟨o2, e _ _ (.inr (.inr (.inr (.inr (.inr rfl))))) b2, r2⟩⟩
/-- the pairs that were handed out so far -/
def Pairs (N : Nat) (h : Heap) (us ws : Array Value) (acc : List Addr) : Prop := ∀ (j : Nat) (T : Addr), acc[j]? = some T → N ≤ T ∧ ∃ x y, us[j]? = some x ∧ ws[j]? = some y ∧ h.get? T = some { cls := .type "tuple", data := .seq #[x, y] }
theorem Pairs.keep {N : Nat} {h h' : Heap} {acc : List Addr} (P : Pairs N h us ws acc) (k : ∀ b o, N ≤ b → h.get? b = some o → h'.get? b = some o) : Pairs N h' us ws acc := fun j T e => by
  obtain ⟨h1, x, y, h2, h3, h4⟩ := P j T e
  exact ⟨h1, x, y, h2, h3, k _ _ h1 h4⟩
theorem apart6 {N b : Nat} (h : N + 6 ≤ b) : b ≠ N + 4 ∧ b ≠ N ∧ b ≠ N + 1 ∧ b ≠ N + 5 := by omega
theorem old6 {N b : Nat} (h : b < N) : b ≠ N + 4 ∧ b ≠ N ∧ b ≠ N + 1 ∧ b ≠ N + 5 := by omega
theorem nos (N : Nat) : N + 5 ≠ N + 4 ∧ N + 5 ≠ N ∧ N + 5 ≠ N + 1 ∧ N + 4 ≠ N + 5 ∧ N + 2 ≠ N + 5 ∧ N ≠ N + 5 ∧ N + 1 ≠ N + 5 := by omega
theorem ge6 {N m : Nat} (h : N + 6 ≤ m) : N + 6 ≤ m + 1 := by omega
/-- the list takes in what is left of the zip; N: the first address behind all that stood ahead of the call -/
theorem zt_loop {N : Nat} {h0 : Heap} {s0 : Shared} {R : Result → Shared → Prop} (hh : A.handled = none) (h0N : h0.objs.size = N) (D : ZipApart (N + 4) (N + 2) (N + 3) N (N + 1) l1 l2) (hl1 : l1 < N) (hl2 : l2 < N) (el : us.size = ws.size) (hsz : us.size ≤ 100000)
    (fin : ∀ h' (acc : List Addr) c, acc.length = us.size → acc.Nodup → h'.get? (N + 5) = some (lstObj (acc.map Value.ref).toArray c) → Pairs (N + 6) h' us ws acc → (∀ b o, h0.get? b = some o → h'.get? b = some o) → R (.ok (.ret .none)) { s0 with heap := h' }) :
    ∀ (r n : Nat) (h : Heap) (acc : List Addr) (c : Nat), n + r = us.size → acc.length = n → acc.Nodup → N + 6 ≤ h.objs.size → h.get? (N + 5) = some (lstObj (acc.map Value.ref).toArray c) → ZtAt h (N + 4) (N + 2) (N + 3) N (N + 1) l1 l2 us ws n → Pairs (N + 6) h us ws acc → (∀ b o, h0.get? b = some o → h.get? b = some o) →
      codeAny (model prog w) A (.builtin "list.extend.loop" ⟨[.ref (N + 5), .ref (N + 4), .none], []⟩) R { s0 with heap := h } := by
  intro r
  have ns := nos N
  induction r with
  | zero =>
    intro n h acc c hn ha nd hz hS Z P k0
    refine codeAny_builtin F.entry_extend_loop ?_
    rw [Around.under_plainId F.plain_extend_loop _]
    show wpAny _ A.in1 (pyNext (.ref (N + 4)) >>= fun _ => _) _ _ _
    refine wpAny_bind (zt_end (A := A.in1) (s := { s0 with heap := h }) hh D Z (Array.getElem?_eq_none (by omega)) fun h' kp => ?_)
    refine wpAny_pure (fin h' acc c (by omega) nd (kp _ _ ns.1 ns.2.1 ns.2.2.1 hS) (P.keep fun b o hb e => ?_) fun b o e => ?_)
    · have := apart6 hb
      exact kp _ _ this.1 this.2.1 this.2.2.1 e
    · have := old6 (N := N) (b := b) (by rw [← h0N]; exact Heap.lt_size e)
      exact kp _ _ this.1 this.2.1 this.2.2.1 (k0 _ _ e)
  | succ r ih =>
    intro n h acc c hn ha nd hz hS Z P k0
    have hnu : n < us.size := by omega
    have hnw : n < ws.size := by omega
    refine codeAny_builtin F.entry_extend_loop ?_
    rw [Around.under_plainId F.plain_extend_loop _]
    show wpAny _ A.in1 (pyNext (.ref (N + 4)) >>= fun _ => _) _ _ _
    refine wpAny_bind (zt_item (A := A.in1) (s := { s0 with heap := h }) D Z (Array.getElem?_eq_getElem hnu) (Array.getElem?_eq_getElem hnw) fun h' Z' hT hsz' kp => ?_)
    have hS' : h'.get? (N + 5) = some (lstObj (acc.map Value.ref).toArray c) := kp _ _ ns.1 ns.2.1 ns.2.2.1 hS
    show wpAny _ A.in1 (updateSeq (N + 5) (·.push (Value.ref h.objs.size)) >>= fun _ => _) _ _ _
    refine wpAny_bind ?_
    have sza : (acc.map Value.ref).toArray.size = n := by simp [ha]
    refine wpAny_updateSeq hS' rfl (wpAny_pure ⟨plainId_quiet F.plain_extend_loop _, ?_⟩) (by rw [sza]; exact Nat.le_trans (by omega) (show 100000 ≤ sizeLine by decide)) (by show ((acc.map Value.ref).toArray.push _).size ≤ _; rw [Array.size_push, sza]; exact Nat.le_trans (by omega) (show 100001 ≤ sizeLine + 1 by decide))
    have oth : ∀ b o, b ≠ N + 5 → h'.get? b = some o → (h'.update (N + 5) (Obj.mapSeq (·.push (Value.ref h.objs.size)))).get? b = some o := fun b o hb e => (Heap.get?_update_other _ _ (Ne.symm hb)).trans e
    have hself := Heap.get?_update_self (Obj.mapSeq (·.push (Value.ref h.objs.size))) hS' rfl
    obtain ⟨c', hc'⟩ : ∃ c', (h'.update (N + 5) (Obj.mapSeq (·.push (Value.ref h.objs.size)))).get? (N + 5) = some (lstObj ((acc ++ [h.objs.size]).map Value.ref).toArray c') := by
      have em : ∀ (f : Array Value → Array Value) (B : Array Value), ∃ c', Obj.mapSeq f (lstObj B c) = lstObj (f B) c' := fun f B => ⟨_, rfl⟩
      obtain ⟨c', ec⟩ := em (·.push (Value.ref h.objs.size)) (acc.map Value.ref).toArray
      refine ⟨c', hself.trans (congrArg some (ec.trans ?_))⟩
      congr 1
      simp
    have nd' : (acc ++ [h.objs.size]).Nodup := by
      rw [List.nodup_append]
      refine ⟨nd, by simp, fun a ha b hb => ?_⟩
      simp only [List.mem_singleton] at hb
      subst hb
      obtain ⟨j, hj⟩ := List.getElem?_of_mem ha
      obtain ⟨_, _, _, _, _, g4⟩ := P j a hj
      exact Nat.ne_of_lt (Heap.lt_size g4)
    refine ih (n + 1) _ (acc ++ [h.objs.size]) c' (by omega) (by simp [ha]) nd' (by rw [Heap.size_update]; show N + 6 ≤ h'.objs.size; rw [hsz']; exact ge6 hz) hc' (Z'.keep (fun b o e => ?_) fun b o hb e => oth b o ?_ e) (fun j T e => ?_) fun b o e => ?_
    · by_cases q : b = N + 5
      · rw [q]; exact ⟨_, hc'⟩
      · exact ⟨o, oth b o q e⟩
    · rcases hb with rfl | rfl | rfl | rfl | rfl | rfl
      · exact ns.2.2.2.1
      · exact ns.2.2.2.2.1
      · exact ns.2.2.2.2.2.1
      · exact ns.2.2.2.2.2.2
      · exact (old6 hl1).2.2.2
      · exact (old6 hl2).2.2.2
    · by_cases hj : j < acc.length
      · rw [List.getElem?_append_left hj] at e
        obtain ⟨g1, x, y, g2, g3, g4⟩ := P j T e
        have := apart6 g1
        exact ⟨g1, x, y, g2, g3, oth _ _ this.2.2.2 (kp _ _ this.1 this.2.1 this.2.2.1 g4)⟩
      · have ej : j = acc.length := by
          have := (List.getElem?_eq_some_iff.mp e).1
          simp at this; omega
        subst ej
        rw [List.getElem?_append_right (Nat.le_refl _)] at e
        simp at e
        subst e
        have := apart6 hz
        rw [ha]
        exact ⟨hz, _, _, Array.getElem?_eq_getElem hnu, Array.getElem?_eq_getElem hnw, oth _ _ this.2.2.2 hT⟩
    · have := old6 (N := N) (b := b) (by rw [← h0N]; exact Heap.lt_size e)
      exact oth _ _ this.2.2.2 (kp _ _ this.1 this.2.1 this.2.2.1 (k0 _ _ e))
/-- .. from a fresh zip on -/
theorem zt_all {N : Nat} {h0 : Heap} {s0 : Shared} {R : Result → Shared → Prop} {h : Heap} {c : Nat} {a b : Value} (hh : A.handled = none) (h0N : h0.objs.size = N) (D : ZipApart (N + 4) (N + 2) (N + 3) N (N + 1) l1 l2) (hl1 : l1 < N) (hl2 : l2 < N) (el : us.size = ws.size) (hsz : us.size ≤ 100000) (pos : 0 < us.size)
    (fin : ∀ h' (acc : List Addr) c, acc.length = us.size → acc.Nodup → h'.get? (N + 5) = some (lstObj (acc.map Value.ref).toArray c) → Pairs (N + 6) h' us ws acc → (∀ b o, h0.get? b = some o → h'.get? b = some o) → R (.ok (.ret .none)) { s0 with heap := h' })
    (hz : N + 6 ≤ h.objs.size) (hS : h.get? (N + 5) = some (lstObj #[] c)) (zh : IsZip h (N + 4) (N + 2) (N + 3) .none) (pi : IsPair h (N + 2) (.ref N) (.ref (N + 1))) (po : IsPair h (N + 3) a b)
    (a1 : h.IsTupleIter N l1 0) (a2 : h.IsTupleIter (N + 1) l2 0) (b1 : h.IsTuple l1 us) (b2 : h.IsTuple l2 ws) (k0 : ∀ b o, h0.get? b = some o → h.get? b = some o) :
      codeAny (model prog w) A (.builtin "list.extend.loop" ⟨[.ref (N + 5), .ref (N + 4), .none], []⟩) R { s0 with heap := h } := by
  have ns := nos N
  have hnw : 0 < ws.size := by omega
  refine codeAny_builtin F.entry_extend_loop ?_
  rw [Around.under_plainId F.plain_extend_loop _]
  show wpAny _ A.in1 (pyNext (.ref (N + 4)) >>= fun _ => _) _ _ _
  refine wpAny_bind (RZ.pyNext_zipT_item (A := A.in1) (s := { s0 with heap := h }) D zh pi po a1 a2 b1 b2 (Array.getElem?_eq_getElem pos) (Array.getElem?_eq_getElem hnw) fun h' zh' po' a1' a2' hT hsz' kp => ?_)
  have n53 : N + 5 ≠ N + 3 := by omega
  have hS' : h'.get? (N + 5) = some (lstObj #[] c) := kp _ _ ns.1 n53 ns.2.1 ns.2.2.1 hS
  show wpAny _ A.in1 (updateSeq (N + 5) (·.push (Value.ref h.objs.size)) >>= fun _ => _) _ _ _
  refine wpAny_bind ?_
  refine wpAny_updateSeq hS' rfl (wpAny_pure ⟨plainId_quiet F.plain_extend_loop _, ?_⟩) (Nat.zero_le _) (by show 1 ≤ sizeLine + 1; decide)
  have oth : ∀ b o, b ≠ N + 5 → h'.get? b = some o → (h'.update (N + 5) (Obj.mapSeq (·.push (Value.ref h.objs.size)))).get? b = some o := fun b o hb e => (Heap.get?_update_other _ _ (Ne.symm hb)).trans e
  have hself := Heap.get?_update_self (Obj.mapSeq (·.push (Value.ref h.objs.size))) hS' rfl
  obtain ⟨c', hc'⟩ : ∃ c', (h'.update (N + 5) (Obj.mapSeq (·.push (Value.ref h.objs.size)))).get? (N + 5) = some (lstObj (([h.objs.size] : List Addr).map Value.ref).toArray c') := by
    have em : ∀ (f : Array Value → Array Value) (B : Array Value), ∃ c', Obj.mapSeq f (lstObj B c) = lstObj (f B) c' := fun f B => ⟨_, rfl⟩
    obtain ⟨c', ec⟩ := em (·.push (Value.ref h.objs.size)) #[]
    exact ⟨c', hself.trans (congrArg some ec)⟩
  have lt0 : h.objs.size ≠ N + 5 := (apart6 hz).2.2.2
  have o4 : ∀ {b o}, b < N → h.get? b = some o → (h'.update (N + 5) (Obj.mapSeq (·.push (Value.ref h.objs.size)))).get? b = some o := fun {b o} hb e => by
    have := old6 hb
    have n3 : b ≠ N + 3 := by omega
    exact oth _ _ this.2.2.2 (kp _ _ this.1 n3 this.2.1 this.2.2.1 e)
  have n24 : N + 2 ≠ N + 4 ∧ N + 2 ≠ N + 3 ∧ N + 2 ≠ N ∧ N + 2 ≠ N + 1 := by omega
  obtain ⟨o1, q1, r1⟩ := b1
  obtain ⟨o2, q2, r2⟩ := b2
  refine zt_loop hh h0N D hl1 hl2 el hsz fin (us.size - 1) 1 _ [h.objs.size] c' (by omega) rfl (by simp) (by rw [Heap.size_update]; show N + 6 ≤ h'.objs.size; rw [hsz']; exact ge6 hz) hc' ⟨⟨h.objs.size, false, _, oth _ _ ns.2.2.2.1 zh', oth _ _ lt0 hT⟩, oth _ _ ns.2.2.2.2.1 (kp _ _ n24.1 n24.2.1 n24.2.2.1 n24.2.2.2 pi), a1'.at fun o e => oth _ o ns.2.2.2.2.2.1 e, a2'.at fun o e => oth _ o ns.2.2.2.2.2.2 e, ⟨o1, o4 hl1 q1, r1⟩, ⟨o2, o4 hl2 q2, r2⟩⟩ (fun j T e => ?_) fun b o e => o4 (by rw [← h0N]; exact Heap.lt_size e) (k0 _ _ e)
  cases j with
  | succ j => simp at e
  | zero =>
    simp at e
    subst e
    exact ⟨hz, _, _, Array.getElem?_eq_getElem pos, Array.getElem?_eq_getElem hnw, oth _ _ lt0 hT⟩
/-- list(z) of a fresh zip -/
theorem zt_list {N : Nat} {h0 : Heap} {Q : Value → Shared → Prop} {a b : Value} (hh : A.handled = none) (h0N : h0.objs.size = N) (D : ZipApart (N + 4) (N + 2) (N + 3) N (N + 1) l1 l2) (hl1 : l1 < N) (hl2 : l2 < N) (el : us.size = ws.size) (hsz : us.size ≤ 100000) (pos : 0 < us.size)
    (hz : s.heap.objs.size = N + 5) (zh : IsZip s.heap (N + 4) (N + 2) (N + 3) .none) (pi : IsPair s.heap (N + 2) (.ref N) (.ref (N + 1))) (po : IsPair s.heap (N + 3) a b)
    (a1 : s.heap.IsTupleIter N l1 0) (a2 : s.heap.IsTupleIter (N + 1) l2 0) (b1 : s.heap.IsTuple l1 us) (b2 : s.heap.IsTuple l2 ws) (k0 : ∀ b o, h0.get? b = some o → s.heap.get? b = some o)
    (fin : ∀ h' (acc : List Addr) c, acc.length = us.size → acc.Nodup → h'.get? (N + 5) = some (lstObj (acc.map Value.ref).toArray c) → Pairs (N + 6) h' us ws acc → (∀ b o, h0.get? b = some o → h'.get? b = some o) → Q (.ref (N + 5)) { s with heap := h' }) :
    wpAny (model prog w) A (call (.type "list") [.ref (N + 4)]) Q E s := by
  refine callType_codes (Q₁ := fun obj s₁ => obj = .ref s.heap.objs.size ∧ s₁ = { s with heap := s.heap.push { cls := .type "list", data := .seq #[] } }) F.called_list (F.typeCall_list_1 _) F.entry_list_init (code_list_new _ ⟨rfl, rfl⟩) fun obj s₁ h₁ => ?_
  obtain ⟨rfl, rfl⟩ := h₁
  rw [hz]
  have gS : (s.heap.push { cls := .type "list", data := .seq #[] }).get? (N + 5) = some { cls := .type "list", data := .seq #[] } := by rw [← hz]; exact Heap.get?_push_size _ rfl
  have szS : (s.heap.push { cls := .type "list", data := .seq #[] }).objs.size = N + 6 := by rw [Heap.size_push, hz]
  refine ⟨⟨_, gS, rfl⟩, F.args_list_init_2 _ _, ?_⟩
  show wpAny _ A.in1.in1 (Builtin.List.listItems (.ref (N + 5)) >>= fun old => _) _ _ _
  refine wpAny_bind ?_
  unfold Builtin.List.listItems
  refine wpAny_bind (wpAny_seqItems gS rfl (wpAny_pure ?_))
  show wpAny _ A.in1.in1 (updateSeq (N + 5) (fun _ => #[]) >>= fun _ => letGo (#[] : Array Value).toList.reverse >>= fun _ => Builtin.List.listExtendWith (.ref (N + 5)) (.ref (N + 4)) .none) _ _ _
  refine wpAny_bind (wpAny_updateSeq gS rfl ?_)
  have gS2 := Heap.get?_update_self (Obj.mapSeq (fun _ => (#[] : Array Value))) gS rfl
  refine wpAny_bind (wpAny_letGo ?_)
  unfold Builtin.List.listExtendWith
  have ns := nos N
  have oth : ∀ (g : Heap) (f : Obj → Obj) (b : Addr) (o : Obj), b ≠ N + 5 → g.get? b = some o → (g.update (N + 5) f).get? b = some o := fun g f b o hb e => (Heap.get?_update_other _ _ (Ne.symm hb)).trans e
  have zT : ∀ {g : Heap}, g.get? (N + 4) = s.heap.get? (N + 4) → Shared.TypeIs { s with heap := g } (.ref (N + 4)) "zip" := fun {g} e => ⟨_, e.trans zh, rfl⟩
  have k1 : (s.heap.push { cls := .type "list", data := .seq #[] }).get? (N + 4) = s.heap.get? (N + 4) := (Heap.get?_push_of_some _ zh).trans zh.symm
  have k2 : ((s.heap.push { cls := .type "list", data := .seq #[] }).update (N + 5) (Obj.mapSeq (fun _ => (#[] : Array Value)))).get? (N + 4) = s.heap.get? (N + 4) := (Heap.get?_update_other _ _ ns.1).trans k1
  refine wpAny_bind (wpAny_typeOf (zT k2) ?_)
  have d1 : Builtin.List.listSameRef (.ref (N + 5)) (.ref (N + 4)) = false := by simp [Builtin.List.listSameRef]
  have d2 : (Value.type "zip" == Value.type "list") = false := by decide
  have d3 : (Value.type "zip" == Value.type "tuple") = false := by decide
  simp only [d1, d2, d3, Bool.or_false, Bool.false_eq_true, if_false]
  refine wpAny_bind (wpAny_pyIter_zip (s := { s with heap := _ }) (k2.trans zh) ?_)
  refine wpAny_bind (wpAny_holding ?_)
  unfold Builtin.List.listLengthHint
  refine wpAny_bind (wpAny_specialOf (zT k2) zip_no_len0 ?_)
  show wpAny _ A.in1.in1 (specialOf (Value.ref (N + 4)) (Str.ofString "__length_hint__") >>= fun _ => _) _ _ _
  refine wpAny_bind (wpAny_specialOf (zT k2) zip_no_hint0 ?_)
  refine wpAny_pure ?_
  show wpAny _ A.in1.in1 (rule "list.extend.makes-room" >>= fun _ => Builtin.List.listTouch (.ref (N + 5)) >>= fun _ => again (.builtin "list.extend.loop" ⟨[.ref (N + 5), .ref (N + 4), .none], []⟩)) _ _ _
  refine wpAny_bind (wpAny_rule ?_)
  refine wpAny_bind ?_
  show wpAny _ A.in1.in1 (updateSeq (N + 5) (·.push .none) >>= fun _ => updateSeq (N + 5) (·.pop)) _ _ _
  refine wpAny_bind (wpAny_updateSeq gS2 rfl ?_)
  have gS3 := Heap.get?_update_self (Obj.mapSeq (·.push Value.none)) gS2 rfl
  refine wpAny_updateSeq (hz := by seq_fits) gS3 rfl ?_
  have gS4 := Heap.get?_update_self (Obj.mapSeq (·.pop)) gS3 rfl
  refine wpAny_pure ⟨plainId_quiet F.plain_extend_loop _, ?_⟩
  have up : ∀ (b : Addr) (o : Obj), b ≠ N + 5 → s.heap.get? b = some o → ((((s.heap.push { cls := .type "list", data := .seq #[] }).update (N + 5) (Obj.mapSeq (fun _ => (#[] : Array Value)))).update (N + 5) (Obj.mapSeq (·.push Value.none))).update (N + 5) (Obj.mapSeq (·.pop))).get? b = some o := fun b o hb e =>
    oth _ _ b o hb (oth _ _ b o hb (oth _ _ b o hb (Heap.get?_push_of_some _ e)))
  obtain ⟨o1, q1, r1⟩ := b1
  obtain ⟨o2, q2, r2⟩ := b2
  have n35 : N + 3 ≠ N + 5 := by omega
  refine zt_all (A := A.in1) (N := N) (h0 := h0) (s0 := s) (us := us) (ws := ws) hh h0N D hl1 hl2 el hsz pos (fun h' acc c e1 e0 e2 e3 e4 => ⟨rfl, fin h' acc c e1 e0 e2 e3 e4⟩) (by rw [Heap.size_update, Heap.size_update, Heap.size_update, szS]; exact Nat.le_refl _) gS4 (up _ _ ns.2.2.2.1 zh) (up _ _ ns.2.2.2.2.1 pi) (up _ _ n35 po) (a1.at fun o e => up _ o ns.2.2.2.2.2.1 e) (a2.at fun o e => up _ o ns.2.2.2.2.2.2 e) ⟨o1, up _ _ (old6 hl1).2.2.2 q1, r1⟩ ⟨o2, up _ _ (old6 hl2).2.2.2 q2, r2⟩ fun b o e => up b o (old6 (by rw [← h0N]; exact Heap.lt_size e)).2.2.2 (k0 b o e)
end
/-! several new objects at once -/
def lay (L H : Hp) : Hp := fun b => match L b with
  | some o => some o
  | none => H b
theorem lay_some {L H : Hp} {b : Addr} {o : HO} (h : L b = some o) : lay L H b = some o := by unfold lay; rw [h]
theorem lay_none {L H : Hp} {b : Addr} (h : L b = none) : lay L H b = H b := by unfold lay; rw [h]
theorem inv_lay {X : Cx} {pins : List (Addr × Obj)} {σ : L2.St} {H L : Hp} {s : Shared} {h' : Heap} (I : Inv X pins σ H s) (k : ∀ b o, s.heap.get? b = some o → h'.get? b = some o) (hp : ∀ b o, L b = some o → s.heap.objs.size ≤ b)
    (new : ∀ b o, L b = some o → ObjOk X.prog X.w (lay L H) h' b o) : Inv X pins σ (lay L H) { s with heap := h' } := by
  have old : ∀ b u, H b = some u → L b = none := fun b u e => by
    cases q : L b with
    | none => rfl
    | some o => exact absurd (Nat.lt_of_lt_of_le (I.hok.lt e) (hp b o q)) (Nat.lt_irrefl _)
  have same : ∀ b u, H b = some u → lay L H b = some u := fun b u e => by rw [lay_none (old b u e)]; exact e
  refine I.un (t' := s.toks) ⟨fun b u q _ _ _ => k b u q, fun b u q _ _ _ => ⟨u.slots, k b u q⟩, fun b u q n _ => ?_, fun b u q _ => ⟨u, k b u q⟩, fun b xs q => same _ _ q, fun b u xs q => same _ _ q, fun b ps q => ⟨#[], by rw [same _ _ q]; simp⟩⟩ fun b u e => ?_
  · cases e : L b with
    | none => rw [lay_none e]; exact n
    | some o => exact absurd (Nat.lt_of_lt_of_le (Heap.lt_size q) (hp b o e)) (Nat.lt_irrefl _)
  · cases e1 : L b with
    | some o =>
      rw [lay_some e1] at e
      obtain rfl := Option.some.inj e
      exact new b o e1
    | none =>
      rw [lay_none e1] at e
      exact (I.hok b u e).stay (fun d v _ q => k d v q) (fun d q => same _ _ q) fun d xs q => same _ _ q
def tLZip (K : PySem.W.Frag) (t : TA) : TE := fun σ H Q => t σ H fun vs H1 => ∃ a b xs ys, vs = [.ref a, .ref b] ∧ SqT K H1 a xs ∧ SqT K H1 b ys ∧ xs.length = ys.length ∧ 0 < xs.length ∧ xs.length ≤ 100000 ∧
  ∀ H' l (Ts : List Addr), Same H1 H' → H1 l = none → H' l = some (.lst (Ts.map V.ref)) → Ts.length = xs.length → (∀ (i : Nat) T x y, Ts[i]? = some T → xs[i]? = some x → ys[i]? = some y → H' T = some (.tup [x, y])) → Q (.ref l) H'
theorem z_lzip {K : PySem.W.Frag} {t : TA} {σ : L2.St} {H : Hp} {Q : VK} (h : t σ H fun vs H1 => ∃ a b xs ys, vs = [.ref a, .ref b] ∧ SqT K H1 a xs ∧ SqT K H1 b ys ∧ xs.length = ys.length ∧ 0 < xs.length ∧ xs.length ≤ 100000 ∧
  ∀ H' l (Ts : List Addr), Same H1 H' → H1 l = none → H' l = some (.lst (Ts.map V.ref)) → Ts.length = xs.length → (∀ (i : Nat) T x y, Ts[i]? = some T → xs[i]? = some x → ys[i]? = some y → H' T = some (.tup [x, y])) → Q (.ref l) H') : tLZip K t σ H Q := h
theorem pe_lzip {X : Cx} {e e2 : Expr} {t : TA} {p p2 q pos : Pos} (K : PySem.W.Frag) (hg : Gl X "list") (hm : X.mg "list" = none) (hg2 : Gl X "zip") (hm2 : X.mg "zip" = none) (ha : PA X [e, e2] t) (hc : X.calm = true := by rfl) (hK : X.K = K := by rfl)
    (hs : starEach [e, e2] X.env = (false, eval e X.env) :: starEach [e2] X.env := by rfl) (hpl : (backTo q (starEach [e2] X.env)).any (·.1) = false := by rfl) :
    PE X (.Call (.Name "list" p) [.Call (.Name "zip" p2) [e, e2] [] q] [] pos) (tLZip K t) := by
  subst hK
  refine ⟨fun pins s σ H Q I h => ?_⟩
  refine Call_ (ld_blt I hg hm boot_list ?_)
  refine PyProof.Rows.callWith_type1 (PyProof.Rows.args_cons ?_ rfl) rfl rfl
  refine Call_ (ld_blt I hg2 hm2 PyProof.Rows.boot_zip (PyProof.Rows.callWith_type1 (thn (ha.run q pins s σ H _ I h) fun us s1 ⟨vs, H1, I1, r1, q1⟩ => ?_) hs hpl))
  obtain ⟨a, b, xs, ys, ex, hqx, hqy, hxy, hpos, hmost, q1⟩ := q1
  subst ex
  cases r1 with
  | cons r rr =>
    cases rr with
    | cons r' rr =>
      cases rr
      cases r
      cases r'
      obtain ⟨its, rv, pa, _⟩ := I1.tuple hqx
      obtain ⟨its2, rv2, pb, _⟩ := I1.tuple hqy
      obtain ⟨o1, ho1, _⟩ := id pa
      obtain ⟨o2, ho2, _⟩ := id pb
      have la : a < s1.heap.objs.size := Heap.lt_size ho1
      have lb : b < s1.heap.objs.size := Heap.lt_size ho2
      have n1 := rv.length
      have n2 := rv2.length
      have pa : s1.heap.IsTuple a its.toArray := pa
      have pb : s1.heap.IsTuple b its2.toArray := pb
      refine RZ.call_zipT pa pb fun h' hz hTI hTO h1 h2 hsz hk => PyProof.Rows.args_nil ?_
      refine zt_list (s := { s1 with heap := h' }) (us := its.toArray) (ws := its2.toArray) (N := s1.heap.objs.size) (h0 := s1.heap) (I1.ok.hd hc) rfl (PySem.W.ktu_apart s1.heap.objs.size a b la lb) la lb (by simp; omega) (by simp; omega) (by simp; omega) hsz hz hTI hTO h1 h2 ?_ ?_ hk fun h3 acc c e1 nd e2 e3 e4 => ?_
      · obtain ⟨o, ho, r⟩ := pa; exact ⟨o, hk _ _ ho, r⟩
      · obtain ⟨o, ho, r⟩ := pb; exact ⟨o, hk _ _ ho, r⟩
      have el : acc.length = xs.length := by rw [e1]; simp; omega
      -- what is new
      have get : ∀ (j : Nat) (T : Addr), acc[j]? = some T → ∃ x y, xs[j]? = some x ∧ ys[j]? = some y ∧ s1.heap.objs.size + 6 ≤ T ∧ ObjOk X.prog X.w H1 h3 T (.tup [x, y]) := fun j T e => by
        obtain ⟨g1, u, v, g2, g3, g4⟩ := e3 j T e
        have hj : j < xs.length := by rw [← el]; exact (List.getElem?_eq_some_iff.mp e).1
        have hj2 : j < ys.length := by omega
        have hx := List.getElem?_eq_getElem hj
        have hy := List.getElem?_eq_getElem hj2
        obtain ⟨u', hu, ru⟩ := rv.get hx
        obtain ⟨v', hv, rv'⟩ := rv2.get hy
        have eu : u' = u := by
          have g2 : its[j]? = some u := by simpa using g2
          rw [hu] at g2; exact Option.some.inj g2
        have ev : v' = v := by
          have g3 : its2[j]? = some v := by simpa using g3
          rw [hv] at g3; exact Option.some.inj g3
        subst eu ev
        exact ⟨_, _, hx, hy, g1, by show 2 ≤ sizeLine; decide, [u', v'], .cons ru (.cons rv' .nil), ⟨_, g4, rfl, _, rfl⟩⟩
      let L : Hp := fun b => if b = s1.heap.objs.size + 5 then some (.lst (acc.map V.ref)) else if b ∈ acc then some (.tup [xs.getD (acc.idxOf b) .non, ys.getD (acc.idxOf b) .non]) else none
      have nS : s1.heap.objs.size + 5 ∉ acc := fun hm => by
        obtain ⟨j, hj⟩ := List.getElem?_of_mem hm
        obtain ⟨_, _, _, _, g, _⟩ := get j _ hj
        have g : s1.heap.objs.size + 6 ≤ s1.heap.objs.size + 5 := g
        omega
      have LS : L (s1.heap.objs.size + 5) = some (.lst (acc.map V.ref)) := if_pos rfl
      have LT : ∀ (j : Nat) (T : Addr) (x y : V), acc[j]? = some T → xs[j]? = some x → ys[j]? = some y → L T = some (.tup [x, y]) := fun j T x y e ex ey => by
        have hm : T ∈ acc := List.mem_of_getElem? e
        have hne : T ≠ s1.heap.objs.size + 5 := fun z => nS (z ▸ hm)
        have hlt : acc.idxOf T < acc.length := List.idxOf_lt_length_of_mem hm
        have hi : acc.idxOf T = j := (List.getElem?_inj hlt nd).mp (by
          rw [e, List.getElem?_eq_getElem hlt]
          exact congrArg some (List.getElem_idxOf hlt))
        show (if T = s1.heap.objs.size + 5 then _ else _) = _
        rw [if_neg hne, if_pos hm, hi]
        simp [ex, ey]
      have Linv : ∀ (b : Addr) (o : HO), L b = some o → (b = s1.heap.objs.size + 5 ∧ o = .lst (acc.map V.ref)) ∨ ∃ j x y, acc[j]? = some b ∧ xs[j]? = some x ∧ ys[j]? = some y ∧ o = .tup [x, y] := fun b o e => by
        by_cases hb : b = s1.heap.objs.size + 5
        · subst hb
          rw [LS] at e
          exact .inl ⟨rfl, (Option.some.inj e).symm⟩
        · by_cases hm : b ∈ acc
          · obtain ⟨j, hj⟩ := List.getElem?_of_mem hm
            obtain ⟨x, y, gx, gy, _⟩ := get j b hj
            rw [LT j b x y hj gx gy] at e
            exact .inr ⟨j, x, y, hj, gx, gy, (Option.some.inj e).symm⟩
          · have e : (if b = s1.heap.objs.size + 5 then some (HO.lst (acc.map V.ref)) else if b ∈ acc then some (.tup [xs.getD (acc.idxOf b) .non, ys.getD (acc.idxOf b) .non]) else none) = some o := e
            rw [if_neg hb, if_neg hm] at e
            cases e
      have refs : ∀ l : List Addr, Vals (l.map V.ref) (l.map Value.ref) := fun l => by
        induction l with
        | nil => exact .nil
        | cons a l ih => exact .cons rfl ih
      have I2 : Inv X pins σ (lay L H1) { s1 with heap := h3 } := inv_lay I1 e4 (fun b o e => by
        rcases Linv b o e with ⟨rfl, _⟩ | ⟨j, x, y, hj, _⟩
        · exact Nat.le_add_right _ _
        · obtain ⟨_, _, _, _, g, _⟩ := get j b hj
          exact Nat.le_trans (Nat.le_add_right _ _) g) fun b o e => by
        rcases Linv b o e with ⟨rfl, rfl⟩ | ⟨j, x, y, hj, gx, gy, rfl⟩
        · exact ⟨by rw [List.length_map, el]; exact sz1000 hmost, acc.map Value.ref, c, refs acc, e2⟩
        · obtain ⟨x', y', gx', gy', _, g⟩ := get j b hj
          rw [gx] at gx'
          rw [gy] at gy'
          obtain rfl := Option.some.inj gx'
          obtain rfl := Option.some.inj gy'
          exact g
      have old : ∀ b u, H1 b = some u → L b = none := fun b u e => by
        cases q : L b with
        | none => rfl
        | some o =>
          have hlt := I1.hok.lt e
          rcases Linv b o q with ⟨rfl, _⟩ | ⟨j, x, y, hj, _⟩
          · exact absurd (Nat.lt_of_lt_of_le hlt (Nat.le_add_right _ _)) (Nat.lt_irrefl _)
          · obtain ⟨_, _, _, _, g, _⟩ := get j b hj
            exact absurd (Nat.lt_of_lt_of_le hlt (Nat.le_trans (Nat.le_add_right _ _) g)) (Nat.lt_irrefl _)
      refine ⟨.ref (s1.heap.objs.size + 5), lay L H1, I2, rfl, q1 _ _ acc (fun b u e => by rw [lay_none (old b u e)]; exact e) (I1.hok.fresh (Nat.le_add_right _ _)) (lay_some LS) el fun i T x y g1 g2 g3 => lay_some (LT i T x y g1 g2 g3)⟩
end Mur
/-! Quarters of pictures, plain mathematics. -/
namespace Mur
open PySem hiding start
open PySem.Spec L2
open PyProof.Rows hiding St
/-- the i-th quarter; a plain picture's quarters are itself -/
def Pic.quart : Pic → Nat → Pic
  | .p c, _ => .p c
  | .q a _ _ _, 0 => a
  | .q _ b _ _, 1 => b
  | .q _ _ c _, 2 => c
  | .q _ _ _ d, _ => d
theorem quart_depth {P : Pic} {s : Nat} (h : P.depth ≤ s + 1) (i : Nat) : (P.quart i).depth ≤ s := by
  cases P with
  | p c => simp [Pic.quart, Pic.depth]
  | q a b c d =>
    simp only [Pic.depth] at h
    match i with
    | 0 => simp only [Pic.quart]; omega
    | 1 => simp only [Pic.quart]; omega
    | 2 => simp only [Pic.quart]; omega
    | j + 3 => simp only [Pic.quart]; omega
theorem quart_mem {ps : List Pic} {P : Pic} (hP : P ∈ ps) (h : PartsIn ps P) (i : Nat) : P.quart i ∈ ps := by
  cases P with
  | p c => exact hP
  | q a b c d =>
    match i with
    | 0 => exact h a (by simp [Pic.parts])
    | 1 => exact h b (by simp [Pic.parts])
    | 2 => exact h c (by simp [Pic.parts])
    | j + 3 => exact h d (by simp [Pic.parts])
theorem quart_cell {P : Pic} {s : Nat} {i : Nat} {u v : Int} (hi : i < 4) (u0 : 0 ≤ u) (u1 : u < 2 ^ s) (v0 : 0 ≤ v) (v1 : v < 2 ^ s) :
    P.cell (s + 1) (2 ^ s * ((i % 2 : Nat) : Int) + u) (2 ^ s * ((i / 2 : Nat) : Int) + v) = (P.quart i).cell s u v := by
  cases P with
  | p c => rfl
  | q a b c d =>
    have hp := pow2 s
    simp only [Pic.cell, Nat.add_sub_cancel]
    have key : ∀ (j : Int) (u : Int), 0 ≤ u → u < 2 ^ s → (2 ^ s * j + u) / 2 ^ s = j ∧ (2 ^ s * j + u) % 2 ^ s = u := fun j u h0 h1 => by
      rw [Int.add_comm, Int.add_mul_ediv_left _ _ (by omega), Int.add_mul_emod_self_left, Int.ediv_eq_zero_of_lt h0 h1, Int.emod_eq_of_lt h0 h1, Int.zero_add]
      exact ⟨rfl, rfl⟩
    rw [(key _ u u0 u1).1, (key _ u u0 u1).2, (key _ v v0 v1).1, (key _ v v0 v1).2]
    match i, hi with
    | 0, _ => simp [Pic.quart]
    | 1, _ => simp [Pic.quart]
    | 2, _ => simp [Pic.quart]
    | 3, _ => simp [Pic.quart]
theorem quart_ne {P R : Pic} (hP : P.ok) (hR : R.ok) (hne : P ≠ R) (hd : 0 < P.depth + R.depth) : ∃ i, i < 4 ∧ P.quart i ≠ R.quart i := by
  cases P with
  | p c =>
    cases R with
    | p d => simp [Pic.depth] at hd
    | q x y z w =>
      by_cases h0 : Pic.p c = x
      · by_cases h1 : Pic.p c = y
        · by_cases h2 : Pic.p c = z
          · by_cases h3 : Pic.p c = w
            · exact absurd ⟨h0.symm.trans h1, h1.symm.trans h2, h2.symm.trans h3, by rw [← h0]; rfl⟩ hR.2
            · exact ⟨3, by decide, h3⟩
          · exact ⟨2, by decide, h2⟩
        · exact ⟨1, by decide, h1⟩
      · exact ⟨0, by decide, h0⟩
  | q a b c d =>
    cases R with
    | p e =>
      by_cases h0 : a = Pic.p e
      · by_cases h1 : b = Pic.p e
        · by_cases h2 : c = Pic.p e
          · by_cases h3 : d = Pic.p e
            · exact absurd ⟨h0.trans h1.symm, h1.trans h2.symm, h2.trans h3.symm, by rw [h0]; rfl⟩ hP.2
            · exact ⟨3, by decide, h3⟩
          · exact ⟨2, by decide, h2⟩
        · exact ⟨1, by decide, h1⟩
      · exact ⟨0, by decide, h0⟩
    | q x y z w =>
      by_cases h0 : a = x
      · by_cases h1 : b = y
        · by_cases h2 : c = z
          · by_cases h3 : d = w
            · exact absurd (by rw [h0, h1, h2, h3]) hne
            · exact ⟨3, by decide, h3⟩
          · exact ⟨2, by decide, h2⟩
        · exact ⟨1, by decide, h1⟩
      · exact ⟨0, by decide, h0⟩
end Mur
/-! Pictures as rows of figures. -/
namespace Mur
open PySem hiding start
open PySem.Spec L2
open PyProof.Rows hiding St
theorem z_m1r {r : V → List V → Hp → VK → Prop} {to te : TE} {σ : L2.St} {H : Hp} {Q : VK} (h : to σ H fun x H1 => (∃ a, x = .str a) ∧ te σ H1 fun y H2 => r x [y] H2 Q) : tM1 r to te σ H Q := h
theorem joinL_lenR (S : List Nat) : ∀ l : List (List Nat), (TL.joinL S l).length ≤ (l.map List.length).sum + l.length * S.length
  | [] => by simp [TL.joinL]
  | [p] => by simp [TL.joinL]
  | p :: q :: l => by
    have h := joinL_lenR S (q :: l)
    have e : TL.joinL S (p :: q :: l) = p ++ (S ++ TL.joinL S (q :: l)) := rfl
    rw [e]
    simp only [List.length_append, List.map_cons, List.sum_cons, List.length_cons] at h ⊢
    rw [Nat.succ_mul]
    omega
theorem str_lenR {a : Str} {ys : List Str} : (Txt.join a ys).length ≤ (ys.map (·.length)).sum + ys.length * a.length := by
  rw [TL.join_eq, TL.len_tl, TL.tl_join]
  refine Nat.le_trans (joinL_lenR _ _) ?_
  rw [List.map_map, List.length_map, ← TL.len_tl]
  have : (List.length ∘ TL.tl) = fun y : Str => y.length := by funext y; exact (TL.len_tl y).symm
  rw [this]
  exact Nat.le_refl _
theorem sum_leR {l : List Nat} {n : Nat} (h : ∀ x ∈ l, x ≤ n) : l.sum ≤ l.length * n := by
  induction l with
  | nil => simp
  | cons x l ih =>
    have h1 := h x (by simp)
    have h2 := ih fun y hy => h y (by simp [hy])
    rw [List.sum_cons, List.length_cons, Nat.succ_mul]
    omega
/-- two ways of an if that meet again -/
theorem z_joinIf2 {tt : TT} {ts tu : TS} {D : Ends} {σ : L2.St} {H : Hp} {R : L2.St → Hp → Prop} (h : ∀ D' : Ends, (∀ σ' H', R σ' H' → D'.nx σ' H') → (∀ v H', D.rt v H' → D'.rt v H') → tIfS tt ts tu D' σ H) (k : ∀ σ' H', R σ' H' → D.nx σ' H') : tIfS tt ts tu D σ H := h D k fun _ _ h => h
def figT (c : Int) : Str := Str.ofString (toString c)
theorem tl_fig {c : Int} (h0 : 0 ≤ c) (h9 : c ≤ 9) : TL.tl (figT c) = [48 + c.toNat] := by
  obtain ⟨n, rfl⟩ : ∃ n : Nat, c = (n : Int) := ⟨c.toNat, by omega⟩
  have h := TL.tl_num n
  rw [TL.numL_lt (by omega)] at h
  rw [Int.toNat_natCast]
  exact h
theorem fig_len {c : Int} (h0 : 0 ≤ c) (h9 : c ≤ 9) : (figT c).length = 1 := by rw [TL.len_tl, tl_fig h0 h9]; rfl
/-- a row of cells as a text -/
def figsT (l : List Int) : Str := Txt.join "" (l.map figT)
theorem tl_figs : ∀ {l : List Int}, (∀ c ∈ l, 0 ≤ c ∧ c ≤ 9) → TL.tl (figsT l) = l.map fun c => 48 + c.toNat := by
  intro l h
  unfold figsT
  have e0 : TL.tl ("" : Str) = [] := by decide +kernel
  rw [TL.join_eq, TL.tl_join, e0, List.map_map]
  induction l with
  | nil => rfl
  | cons c l ih =>
    have hc := h c (by simp)
    have ih := ih fun d hd => h d (by simp [hd])
    cases l with
    | nil =>
      show TL.tl (figT c) = _
      rw [tl_fig hc.1 hc.2]; rfl
    | cons d l =>
      show TL.tl (figT c) ++ ([] ++ TL.joinL [] ((d :: l).map (TL.tl ∘ figT))) = _
      rw [ih, tl_fig hc.1 hc.2]; rfl
theorem figs_len {l : List Int} (h : ∀ c ∈ l, 0 ≤ c ∧ c ≤ 9) : (figsT l).length = l.length := by rw [TL.len_tl, tl_figs h, List.length_map]
def rowC (P : Pic) (d y : Nat) : List Int := (List.range (2 ^ d)).map fun x : Nat => P.cell d ((x : Nat) : Int) ((y : Nat) : Int)
def rowsT (P : Pic) (d : Nat) : List Str := (List.range (2 ^ d)).map fun y => figsT (rowC P d y)
theorem cell_col {ps : List Pic} (inv : PInv ps) : ∀ {P : Pic}, P ∈ ps → ∀ (s : Nat) (x y : Int), 0 ≤ P.cell s x y ∧ P.cell s x y ≤ 9
  | .p c, h, s, x, y => inv.ok _ h
  | .q a b c d, h, s, x, y => by
    have hp := inv.cl _ h
    simp only [Pic.cell]
    split
    · exact cell_col inv (hp a (by simp [Pic.parts])) _ _ _
    split
    · exact cell_col inv (hp b (by simp [Pic.parts])) _ _ _
    split
    · exact cell_col inv (hp c (by simp [Pic.parts])) _ _ _
    · exact cell_col inv (hp d (by simp [Pic.parts])) _ _ _
theorem toNat_pow5 : ∀ d, d < 6 → ((2 : Int) ^ d).toNat = 2 ^ d := by decide
theorem pow5_le : ∀ d, d < 6 → 2 ^ d ≤ 32 := by decide
theorem log_fig {c : Int} (h0 : 0 ≤ c) (h9 : c ≤ 9) : c.natAbs.log2 < 1920 := by
  by_cases h : c.natAbs = 0
  · rw [h]; decide
  · exact Nat.lt_of_lt_of_le ((Nat.log2_lt (k := 4) h).mpr (by omega)) (by decide)
/-! pictures out of rows -/
def goodR (rows : List Str) : Prop := ∃ d, d < 6 ∧ rows.length = 2 ^ d ∧ ∀ r ∈ rows, r.length = rows.length ∧ ∀ c ∈ TL.tl r, 48 ≤ c ∧ c ≤ 57
theorem six_in {n : Nat} : inV (.int (n : Nat)) [.int 1, .int 2, .int 4, .int 8, .int 16, .int 32] = true ↔ ∃ d, d < 6 ∧ n = 2 ^ d := by
  have e : inV (.int (n : Nat)) [.int 1, .int 2, .int 4, .int 8, .int 16, .int 32] = (((1 : Int) == (n : Int)) || (((2 : Int) == (n : Int)) || (((4 : Int) == (n : Int)) || (((8 : Int) == (n : Int)) || (((16 : Int) == (n : Int)) || (((32 : Int) == (n : Int)) || false)))))) := rfl
  rw [e]
  simp only [Bool.or_eq_true, beq_iff_eq, Bool.false_eq_true, or_false]
  constructor
  · rintro (h | h | h | h | h | h)
    · exact ⟨0, by decide, by omega⟩
    · exact ⟨1, by decide, by omega⟩
    · exact ⟨2, by decide, by omega⟩
    · exact ⟨3, by decide, by omega⟩
    · exact ⟨4, by decide, by omega⟩
    · exact ⟨5, by decide, by omega⟩
  · rintro ⟨d, hd, rfl⟩
    rcases (show d = 0 ∨ d = 1 ∨ d = 2 ∨ d = 3 ∨ d = 4 ∨ d = 5 by omega) with rfl | rfl | rfl | rfl | rfl | rfl <;> simp
def lay4 (f : Nat → Nat → Int) : Nat → Nat → Nat → Pic
  | 0, x, y => .p (f x y)
  | k + 1, x, y => Pic.mk (lay4 f k (2 * x) (2 * y)) (lay4 f k (2 * x + 1) (2 * y)) (lay4 f k (2 * x) (2 * y + 1)) (lay4 f k (2 * x + 1) (2 * y + 1))
theorem mk_le {a b c d : Pic} {n : Nat} (ha : a.depth ≤ n) (hb : b.depth ≤ n) (hc : c.depth ≤ n) (hd : d.depth ≤ n) : (Pic.mk a b c d).depth ≤ n + 1 := by
  unfold Pic.mk
  split
  · omega
  · simp only [Pic.depth]; omega
theorem lay_depth (f : Nat → Nat → Int) : ∀ k x y, (lay4 f k x y).depth ≤ k
  | 0, x, y => Nat.le_refl _
  | k + 1, x, y => mk_le (lay_depth f k _ _) (lay_depth f k _ _) (lay_depth f k _ _) (lay_depth f k _ _)
theorem lay_ext {f g : Nat → Nat → Int} : ∀ (k x y : Nat), (∀ u v, u < 2 ^ k → v < 2 ^ k → f (x * 2 ^ k + u) (y * 2 ^ k + v) = g (x * 2 ^ k + u) (y * 2 ^ k + v)) → lay4 f k x y = lay4 g k x y
  | 0, x, y, h => by simpa [lay4] using h 0 0 (by decide) (by decide)
  | k + 1, x, y, h => by
    have e : 2 ^ (k + 1) = 2 * 2 ^ k := by rw [Nat.pow_succ]; omega
    rw [e] at h
    have one : ∀ i j, i < 2 → j < 2 → lay4 f k (2 * x + i) (2 * y + j) = lay4 g k (2 * x + i) (2 * y + j) := fun i j hi hj => by
      refine lay_ext k _ _ fun u v h1 h2 => ?_
      have ex : ∀ z w t : Nat, (2 * z + w) * 2 ^ k + t = z * (2 * 2 ^ k) + (w * 2 ^ k + t) := fun z w t => by
        rw [Nat.add_mul, Nat.mul_comm 2 z, Nat.mul_assoc, Nat.add_assoc]
      rw [ex, ex]
      have bd : ∀ w t : Nat, w < 2 → t < 2 ^ k → w * 2 ^ k + t < 2 * 2 ^ k := fun w t hw ht => by
        rcases (show w = 0 ∨ w = 1 by omega) with rfl | rfl <;> omega
      exact h _ _ (bd i u hi h1) (bd j v hj h2)
    simp only [lay4]
    rw [one 0 0 (by decide) (by decide) |> fun z => (by simpa using z : lay4 f k (2 * x) (2 * y) = lay4 g k (2 * x) (2 * y)), one 1 0 (by decide) (by decide) |> fun z => (by simpa using z : lay4 f k (2 * x + 1) (2 * y) = lay4 g k (2 * x + 1) (2 * y)),
      one 0 1 (by decide) (by decide) |> fun z => (by simpa using z : lay4 f k (2 * x) (2 * y + 1) = lay4 g k (2 * x) (2 * y + 1)), one 1 1 (by decide) (by decide)]
theorem lay_cell (f : Nat → Nat → Int) : ∀ (k x y u v : Nat), u < 2 ^ k → v < 2 ^ k → (lay4 f k x y).cell k ((u : Nat) : Int) ((v : Nat) : Int) = f (x * 2 ^ k + u) (y * 2 ^ k + v)
  | 0, x, y, u, v, hu, hv => by
    obtain rfl : u = 0 := by omega
    obtain rfl : v = 0 := by omega
    simp [lay4, Pic.cell]
  | k + 1, x, y, u, v, hu, hv => by
    have e : 2 ^ (k + 1) = 2 * 2 ^ k := by rw [Nat.pow_succ]; omega
    rw [e] at hu hv
    have hp : 0 < 2 ^ k := Nat.pow_pos (by decide)
    have ek : (2 : Int) ^ k = ((2 ^ k : Nat) : Int) := by
      have h := Int.natCast_pow 2 k
      simpa using h.symm
    have ih := fun i j => lay_cell f k (2 * x + i) (2 * y + j)
    -- which quarter
    obtain ⟨i, u', hi, hu', rfl⟩ : ∃ i u', i < 2 ∧ u' < 2 ^ k ∧ u = i * 2 ^ k + u' := by
      by_cases c : u < 2 ^ k
      · exact ⟨0, u, by decide, c, by omega⟩
      · exact ⟨1, u - 2 ^ k, by decide, by omega, by omega⟩
    obtain ⟨j, v', hj, hv', rfl⟩ : ∃ j v', j < 2 ∧ v' < 2 ^ k ∧ v = j * 2 ^ k + v' := by
      by_cases c : v < 2 ^ k
      · exact ⟨0, v, by decide, c, by omega⟩
      · exact ⟨1, v - 2 ^ k, by decide, by omega, by omega⟩
    have ex : ∀ z w t : Nat, z * (2 * 2 ^ k) + (w * 2 ^ k + t) = (2 * z + w) * 2 ^ k + t := fun z w t => by
      rw [Nat.add_mul, Nat.mul_comm 2 z, Nat.mul_assoc, Nat.add_assoc]
    rw [e, ex, ex, ← ih i j u' v' hu' hv']
    have dv : ∀ w t : Nat, t < 2 ^ k → (((w * 2 ^ k + t : Nat) : Int)) / (2 ^ k : Int) = (w : Nat) ∧ (((w * 2 ^ k + t : Nat) : Int)) % (2 ^ k : Int) = (t : Nat) := fun w t ht => by
      rw [ek]
      have e1 : (w * 2 ^ k + t) / 2 ^ k = w := by rw [Nat.mul_comm, Nat.mul_add_div hp, Nat.div_eq_of_lt ht]; omega
      have e2 : (w * 2 ^ k + t) % 2 ^ k = t := by rw [Nat.mul_comm, Nat.mul_add_mod, Nat.mod_eq_of_lt ht]
      constructor
      · rw [← Int.natCast_ediv, e1]
      · rw [← Int.natCast_emod, e2]
    have mkc : ∀ (a b c d : Pic) (s : Nat) (i j : Nat) (U V : Int), i < 2 → j < 2 → U / (2 : Int) ^ s = (i : Nat) → V / (2 : Int) ^ s = (j : Nat) → (Pic.mk a b c d).cell (s + 1) U V = (if 2 * j + i = 0 then a else if 2 * j + i = 1 then b else if 2 * j + i = 2 then c else d).cell s (U % (2 : Int) ^ s) (V % (2 : Int) ^ s) := fun a b c d s i j U V hi hj hU hV => by
      unfold Pic.mk
      split
      · rename_i h
        obtain ⟨rfl, rfl, rfl, h0⟩ := h
        obtain ⟨q, rfl⟩ := depth_zero h0
        simp only [ite_self]
        rfl
      · simp only [Pic.cell, Nat.add_sub_cancel]
        rw [hU, hV]
        have c0 : ∀ n : Nat, (2 * ((j : Nat) : Int) + ((i : Nat) : Int) = (n : Nat)) ↔ 2 * j + i = n := fun n => by omega
        have c0' := c0 0
        have c1' := c0 1
        have c2' := c0 2
        simp only [Int.natCast_zero, Int.natCast_one, Int.cast_ofNat_Int] at c0' c1' c2'
        rcases (show i = 0 ∨ i = 1 by omega) with rfl | rfl <;> rcases (show j = 0 ∨ j = 1 by omega) with rfl | rfl <;> simp
    simp only [lay4]
    rw [mkc _ _ _ _ k i j _ _ hi hj (dv i u' hu').1 (dv j v' hv').1, (dv i u' hu').2, (dv j v' hv').2]
    rcases (show i = 0 ∨ i = 1 by omega) with rfl | rfl <;> rcases (show j = 0 ∨ j = 1 by omega) with rfl | rfl <;> simp
/-- in one store pictures with the same cells are one -/
theorem pic_ext {ps : List Pic} (inv : PInv ps) : ∀ (s : Nat) {P R : Pic}, P ∈ ps → R ∈ ps → P.depth ≤ s → R.depth ≤ s → (∀ u v : Int, 0 ≤ u → u < 2 ^ s → 0 ≤ v → v < 2 ^ s → P.cell s u v = R.cell s u v) → P = R
  | 0, P, R, hP, hR, dP, dR, h => by
    obtain ⟨a, rfl⟩ := depth_zero (P := P) (by omega)
    obtain ⟨b, rfl⟩ := depth_zero (P := R) (by omega)
    exact congrArg Pic.p (h 0 0 (by decide) (by decide) (by decide) (by decide))
  | s + 1, P, R, hP, hR, dP, dR, h => by
    have hp := pow2 s
    have e2 : (2 : Int) ^ (s + 1) = 2 * 2 ^ s := by rw [Int.pow_succ]; omega
    rw [e2] at h
    by_cases hd : 0 < P.depth + R.depth
    · by_cases hne : P = R
      · exact hne
      · obtain ⟨i, hi, hq⟩ := quart_ne (inv.ok P hP) (inv.ok R hR) hne hd
        refine absurd (pic_ext inv s (quart_mem hP (inv.cl P hP) i) (quart_mem hR (inv.cl R hR) i) (quart_depth dP i) (quart_depth dR i) fun u v u0 u1 v0 v1 => ?_) hq
        have hx : (2 : Int) ^ s * ((i % 2 : Nat) : Int) = 0 ∨ (2 : Int) ^ s * ((i % 2 : Nat) : Int) = 2 ^ s := by
          rcases (show i % 2 = 0 ∨ i % 2 = 1 by omega) with z | z <;> rw [z] <;> simp
        have hy : (2 : Int) ^ s * ((i / 2 : Nat) : Int) = 0 ∨ (2 : Int) ^ s * ((i / 2 : Nat) : Int) = 2 ^ s := by
          rcases (show i / 2 = 0 ∨ i / 2 = 1 by omega) with z | z <;> rw [z] <;> simp
        have hc := h (2 ^ s * ((i % 2 : Nat) : Int) + u) (2 ^ s * ((i / 2 : Nat) : Int) + v) (by omega) (by omega) (by omega) (by omega)
        rw [quart_cell hi u0 u1 v0 v1, quart_cell hi u0 u1 v0 v1] at hc
        exact hc
    · obtain ⟨a, rfl⟩ := depth_zero (P := P) (by omega)
      obtain ⟨b, rfl⟩ := depth_zero (P := R) (by omega)
      exact congrArg Pic.p (h 0 0 (by decide) (by omega) (by decide) (by omega))
theorem lay_pic {ps : List Pic} (inv : PInv ps) {P : Pic} {d : Nat} {f : Nat → Nat → Int} (hP : P ∈ ps) (hd : P.depth ≤ d) (hm : lay4 f d 0 0 ∈ ps) (hf : ∀ u v, u < 2 ^ d → v < 2 ^ d → f u v = P.cell d ((u : Nat) : Int) ((v : Nat) : Int)) : lay4 f d 0 0 = P := by
  have ek : (2 : Int) ^ d = ((2 ^ d : Nat) : Int) := by
    have h := Int.natCast_pow 2 d
    simpa using h.symm
  refine pic_ext inv d hm hP (lay_depth f d 0 0) hd fun u v u0 u1 v0 v1 => ?_
  obtain ⟨a, rfl⟩ : ∃ a : Nat, u = (a : Int) := ⟨u.toNat, by omega⟩
  obtain ⟨b, rfl⟩ : ∃ b : Nat, v = (b : Int) := ⟨v.toNat, by omega⟩
  rw [ek] at u1 v1
  rw [lay_cell f d 0 0 a b (by omega) (by omega), Nat.zero_mul, Nat.zero_add, Nat.zero_add]
  exact hf a b (by omega) (by omega)
/-! the figures of rows -/
def sgnAt (rows : List Str) (x y : Nat) : Int := (((TL.tl (rows.getD y "")).getD x 48 : Nat) : Int) - 48
theorem one_num {c : Nat} (h : 48 ≤ c ∧ c ≤ 57) : PySem.intText? ⟨#[c]⟩ = some ((c : Int) - 48) := by
  have hd : NumText.AllDigits (⟨#[c]⟩ : Str).cps.toList := fun z hz => by
    have : z = c := by simpa using hz
    rw [this]; exact h
  have := PySem.intText_digits (x := ⟨#[c]⟩) hd (by simp) (by show 1 ≤ 4300; decide)
  rw [this]
  congr 1
  show ((NumText.digitsVal [c] : Nat) : Int) = _
  have : NumText.digitsVal [c] = 0 * 10 + (c - 48) := rfl
  rw [this]; omega
def rIntR : List V → Hp → VK → Prop := fun xs H Q => ∃ a n, xs = [.str a] ∧ PySem.intText? a = some n ∧ a.length ≤ 640 ∧ Q (.int n) H
theorem call_intR {X : Cx} : CallR X (.type "int") rIntR := call_int_str
theorem figs_memR (c : Nat) : c ∈ ("0123456789" : Str).cps.toList ↔ 48 ≤ c ∧ c ≤ 57 := by
  have e : ("0123456789" : Str).cps.toList = [48, 49, 50, 51, 52, 53, 54, 55, 56, 57] := by decide +kernel
  rw [e]
  simp only [List.mem_cons, List.mem_nil_iff, or_false]
  omega
theorem z_iStrR {te : TE} {σ : L2.St} {H : Hp} {R : It → Hp → Prop} (h : te σ H fun v H1 => ∃ x, v = .str x ∧ R (Its x) H1) : iStr te σ H R := h
/-! a square of faces in the heap: a list of lists of their numbers -/
structure GridAt (F : Addr → Prop) (H : Hp) (l : Addr) (ps : List Pic) (n : Nat) (L : Nat → Nat → Pic) : Prop where
  ex : ∃ rs : List Addr, H l = some (.lst (rs.map V.ref)) ∧ rs.length = n ∧ ∀ (y : Nat) (a : Addr), rs[y]? = some a → ¬ F a ∧ H a = some (.lst ((List.range n).map fun x => V.int (ix ps (L x y) : Nat)))
  nl : ¬ F l
  mem : ∀ x y, x < n → y < n → L x y ∈ ps
theorem GridAt.keep {F : Addr → Prop} {H H' : Hp} {l : Addr} {ps qs : List Pic} {n : Nat} {L : Nat → Nat → Pic} (h : GridAt F H l ps n L) (k : Keep F H H') : GridAt F H' l (ps ++ qs) n L := by
  obtain ⟨⟨rs, h1, h2, h3⟩, nl, mem⟩ := h
  refine ⟨⟨rs, k _ _ h1 nl, h2, fun y a e => ⟨(h3 y a e).1, ?_⟩⟩, nl, fun x y hx hy => List.mem_append_left _ (mem x y hx hy)⟩
  rw [k _ _ (h3 y a e).2 (h3 y a e).1]
  have hy : y < n := by rw [← h2]; exact (List.getElem?_eq_some_iff.mp e).1
  congr 2
  apply List.map_congr_left
  intro x hx
  rw [ix_app (mem x y (List.mem_range.mp hx) hy)]
theorem GridAt.get {F : Addr → Prop} {H : Hp} {l : Addr} {ps : List Pic} {n : Nat} {L : Nat → Nat → Pic} (h : GridAt F H l ps n L) {x y : Nat} (hx : x < n) (hy : y < n) : ∃ (xs : List V) (a : Addr) (ys : List V), H l = some (.lst xs) ∧ xs.length = n ∧ xs[y]? = some (.ref a) ∧ H a = some (.lst ys) ∧ ys[x]? = some (.int (ix ps (L x y) : Nat)) := by
  obtain ⟨⟨rs, h1, h2, h3⟩, nl, mem⟩ := h
  have e : rs[y]? = some rs[y] := List.getElem?_eq_getElem (by omega)
  exact ⟨_, rs[y], _, h1, by simp [h2], by rw [List.getElem?_map, e]; rfl, (h3 y _ e).2, by rw [List.getElem?_map, List.getElem?_range hx]; rfl⟩
theorem half_range : ∀ k, k < 5 → RgC 0 ((2 ^ (k + 1) : Nat) : Int) 2 (2 ^ k) := fun k hk => by
  rcases (show k = 0 ∨ k = 1 ∨ k = 2 ∨ k = 3 ∨ k = 4 by omega) with rfl | rfl | rfl | rfl | rfl <;> exact ⟨by decide, by decide, by decide, by decide⟩
theorem z_rng3 {ta : TA} {σ : L2.St} {H : Hp} {R : It → Hp → Prop} (h : ta σ H fun vs H1 => ∃ (i j c : Int) (n : Nat), vs = [.int i, .int j, .int c] ∧ RgC i j c n ∧ R (Itc i c n) H1) : iRng3 ta σ H R := h
/-! a store that grows while the law's own lists grow, too -/
structure GS (C : Addr) (H1 : Hp) (p : Addr) (A : FA) (D : Addr → Prop) (ps : List Pic) (H' : Hp) (D' : Addr → Prop) (qs : List Pic) : Prop where
  kp : Keep A.foot H1 H'
  F : FacesAt C H' p A D' (ps ++ qs)
  up : ∀ b, D b → D' b
  fr : ∀ b, D' b → D b ∨ H1 b = none
section
variable {C : Addr} {H1 H' H'' : Hp} {p : Addr} {A : FA} {D D' D'' : Addr → Prop} {ps qs : List Pic}
theorem GS.refl (h : FacesAt C H1 p A D ps) : GS C H1 p A D ps H1 D [] := ⟨Keep.refl _ _, by rw [List.append_nil]; exact h, fun _ h => h, fun _ h => .inl h⟩
theorem GS.same (g : GS C H1 p A D ps H' D' qs) (s : Same H' H'') : GS C H1 p A D ps H'' D' qs := ⟨g.kp.trans s.keep, g.F.same s, g.up, g.fr⟩
theorem GS.new (g : GS C H1 p A D ps H' D' qs) {L : Addr} (h : H' L = none) : ¬ D' L ∧ ¬ A.foot L := ⟨g.F.nd h, g.F.ofFoot (g.F.nd h)⟩
theorem GS.updN (g : GS C H1 p A D ps H' D' qs) {L : Addr} {o : HO} (nL : ¬ D' L) (hL : H1 L = none) : GS C H1 p A D ps (upd H' L o) D' qs :=
  ⟨g.kp.setNew hL, g.F.keep fun b u hb e => by rw [upd_ne (fun z => nL (by rw [← z]; exact hb))]; exact e, g.up, g.fr⟩
theorem GS.step (g : GS C H1 p A D ps H' D' qs) {P : Pic} (kp : Keep A.foot H' H'') (hF : FacesAt C H'' p A D'' (addP (ps ++ qs) P)) (e1 : ∀ b, D' b → D'' b) (e2 : ∀ b, D'' b → D' b ∨ H' b = none) :
    ∃ qs2, addP (ps ++ qs) P = ps ++ (qs ++ qs2) ∧ qs2.length ≤ 1 ∧ GS C H1 p A D ps H'' D'' (qs ++ qs2) := by
  obtain ⟨qs2, e⟩ := addP_ext (ps ++ qs) P
  have hl := addP_len (ps ++ qs) P
  rw [e] at hF hl
  refine ⟨qs2, by rw [e, List.append_assoc], by simp at hl; omega, g.kp.trans kp, by rw [← List.append_assoc]; exact hF, fun b h => e1 b (g.up b h), fun b h => ?_⟩
  rcases e2 b h with h | h
  · exact g.fr b h
  · exact .inr (back_fresh g.F g.kp h)
theorem GS.trans {rs : List Pic} (g : GS C H1 p A D ps H' D' qs) (h : GS C H' p A D' (ps ++ qs) H'' D'' rs) : GS C H1 p A D ps H'' D'' (qs ++ rs) :=
  ⟨g.kp.trans h.kp, by rw [← List.append_assoc]; exact h.F, fun b x => h.up b (g.up b x), fun b x => by
    rcases h.fr b x with z | z
    · exact g.fr b z
    · exact .inr (back_fresh g.F g.kp z)⟩
/-- one row of faces' numbers -/
def RowAt (H : Hp) (a : Addr) (ps : List Pic) (m : Nat) (g : Nat → Pic) : Prop := H a = some (.lst ((List.range m).map fun x => V.int (ix ps (g x) : Nat))) ∧ ∀ x, x < m → g x ∈ ps
theorem RowAt.to {H H' : Hp} {a : Addr} {ps rs : List Pic} {m : Nat} {g : Nat → Pic} (h : RowAt H a ps m g) (k : ∀ o, H a = some o → H' a = some o) : RowAt H' a (ps ++ rs) m g := by
  refine ⟨?_, fun x hx => List.mem_append_left _ (h.2 x hx)⟩
  rw [k _ h.1]
  congr 2
  apply List.map_congr_left
  intro x hx
  rw [ix_app (h.2 x (List.mem_range.mp hx))]
theorem RowAt.nil {H : Hp} {a : Addr} {ps : List Pic} {g : Nat → Pic} (h : H a = some (.lst [])) : RowAt H a ps 0 g := ⟨h, fun x hx => absurd hx (Nat.not_lt_zero _)⟩
theorem RowAt.push {H : Hp} {a : Addr} {ps : List Pic} {m : Nat} {g : Nat → Pic} (h : RowAt H a ps m g) (hm : g m ∈ ps) : RowAt (upd H a (.lst (((List.range m).map fun x => V.int (ix ps (g x) : Nat)) ++ [.int (ix ps (g m) : Nat)]))) a ps (m + 1) g := by
  refine ⟨by rw [upd_same, List.range_succ, List.map_append]; rfl, fun x hx => ?_⟩
  by_cases h' : x < m
  · exact h.2 x h'
  · obtain rfl : x = m := by omega
    exact hm
/-- rows that are done -/
def RowsAt (F : Addr → Prop) (H : Hp) (rs : List Addr) (ps : List Pic) (n : Nat) (L : Nat → Nat → Pic) : Prop := ∀ (y : Nat) (a : Addr), rs[y]? = some a → ¬ F a ∧ RowAt H a ps n (fun x => L x y)
theorem RowsAt.to {F : Addr → Prop} {H H' : Hp} {rs : List Addr} {ps zs : List Pic} {n : Nat} {L : Nat → Nat → Pic} (h : RowsAt F H rs ps n L) (k : ∀ a ∈ rs, ¬ F a → ∀ o, H a = some o → H' a = some o) : RowsAt F H' rs (ps ++ zs) n L := fun y a e => by
  obtain ⟨h1, h2⟩ := h y a e
  exact ⟨h1, h2.to (k a (List.mem_of_getElem? e) h1)⟩
theorem RowsAt.nil {F : Addr → Prop} {H : Hp} {ps : List Pic} {n : Nat} {L : Nat → Nat → Pic} : RowsAt F H [] ps n L := fun y a e => by simp at e
theorem RowsAt.push {F : Addr → Prop} {H : Hp} {rs : List Addr} {ps : List Pic} {n : Nat} {L : Nat → Nat → Pic} {a : Addr} (h : RowsAt F H rs ps n L) (na : ¬ F a) (hr : RowAt H a ps n fun x => L x rs.length) : RowsAt F H (rs ++ [a]) ps n L := fun y b e => by
  by_cases hy : y < rs.length
  · rw [List.getElem?_append_left hy] at e
    exact h y b e
  · have ey : y = rs.length := by
      have := (List.getElem?_eq_some_iff.mp e).1
      simp at this; omega
    subst ey
    rw [List.getElem?_append_right (Nat.le_refl _)] at e
    simp at e
    subst e
    exact ⟨na, hr⟩
theorem GridAt.of {F : Addr → Prop} {H : Hp} {l : Addr} {rs : List Addr} {ps : List Pic} {n : Nat} {L : Nat → Nat → Pic} (h1 : H l = some (.lst (rs.map V.ref))) (h2 : rs.length = n) (nl : ¬ F l) (h : RowsAt F H rs ps n L) : GridAt F H l ps n L :=
  ⟨⟨rs, h1, h2, fun y a e => ⟨(h y a e).1, (h y a e).2.1⟩⟩, nl, fun x y hx hy => by
    have e : rs[y]? = some rs[y] := List.getElem?_eq_getElem (by omega)
    exact (h y _ e).2.2 x hx⟩
end
theorem atI_txtR {z : Str} {i : Int} (h0 : 0 ≤ i) (h1 : i < (z.length : Nat)) : ∃ c, atI z.cps.toList i = some c := by
  obtain ⟨n, rfl⟩ : ∃ n : Nat, i = (n : Int) := ⟨i.toNat, by omega⟩
  have hi : n < z.cps.toList.length := by
    have h2 : z.length = z.cps.toList.length := TL.len_tl z
    rw [← h2]; omega
  exact ⟨z.cps.toList[n], atI_nat (List.getElem?_eq_getElem hi)⟩
theorem app_lenR (x y : Str) : (x ++ y).length = x.length + y.length := by rw [TL.len_tl, TL.tl_append, List.length_append, ← TL.len_tl, ← TL.len_tl]
theorem cut_strs (l : List Str) (lo hi : Option Int) : ∃ m : List Str, cutV (l.map V.str) lo hi = m.map V.str ∧ m.length ≤ l.length ∧ ∀ z ∈ m, z ∈ l := by
  refine ⟨(l.drop (HT.sIx (l.map V.str).length 0 lo)).take (HT.sIx (l.map V.str).length (l.map V.str).length hi - HT.sIx (l.map V.str).length 0 lo), ?_, ?_, fun z hz => List.mem_of_mem_drop (List.mem_of_mem_take hz)⟩
  · unfold cutV
    rw [List.map_take, List.map_drop]
  · rw [List.length_take, List.length_drop]; omega
theorem eqv_strs : ∀ l : List Str, PyData.eqvAll (l.map PyData.str) (l.map PyData.str) = true
  | [] => rfl
  | n :: ns => by simp [PyData.eqvAll, PyData.eqv, eqv_strs ns]
theorem dep_strs : ∀ l : List Str, PyData.depthAll (l.map PyData.str) = 0
  | [] => rfl
  | n :: ns => by simp [PyData.depthAll, PyData.depth, dep_strs ns]
theorem lay_strs : ∀ l : List Str, (∀ z ∈ l, PyData.canLay0 (.str z) = true) → PyData.canLayAll0 (l.map PyData.str) = true
  | [], _ => rfl
  | n :: ns, h => by
    rw [List.map_cons]
    unfold PyData.canLayAll0
    rw [h n (by simp), lay_strs ns fun z hz => h z (by simp [hz])]; rfl
/-- the rows of a picture made of rows are those rows -/
theorem rows_back {rows : List Str} {d : Nat} (hd : d < 6) (hl : rows.length = 2 ^ d) (hg : goodR rows) : rowsT (lay4 (sgnAt rows) d 0 0) d = rows := by
  obtain ⟨_, _, _, hgood⟩ := hg
  refine List.ext_getElem? fun y => ?_
  by_cases hy : y < 2 ^ d
  · have hy' : y < rows.length := by omega
    obtain ⟨r, er⟩ : ∃ r, rows[y]? = some r := ⟨rows[y], List.getElem?_eq_getElem hy'⟩
    obtain ⟨h1, h2⟩ := hgood r (List.mem_of_getElem? er)
    have hrl : (TL.tl r).length = 2 ^ d := by rw [← TL.len_tl]; omega
    have hrow : rowC (lay4 (sgnAt rows) d 0 0) d y = (TL.tl r).map fun c => ((c : Nat) : Int) - 48 := by
      refine List.ext_getElem? fun x => ?_
      unfold rowC
      by_cases hx : x < 2 ^ d
      · have ex : (TL.tl r)[x]? = some ((TL.tl r)[x]'(by omega)) := List.getElem?_eq_getElem (by omega)
        rw [List.getElem?_map, List.getElem?_range hx, List.getElem?_map, ex]
        have hc := lay_cell (sgnAt rows) d 0 0 x y hx hy
        rw [Nat.zero_mul, Nat.zero_add, Nat.zero_add] at hc
        show some ((lay4 (sgnAt rows) d 0 0).cell d ((x : Nat) : Int) ((y : Nat) : Int)) = some _
        rw [hc]
        unfold sgnAt
        simp [er, ex]
      · rw [List.getElem?_eq_none (by simp; omega), List.getElem?_eq_none (by rw [List.length_map]; omega)]
    have hrg : ∀ c ∈ rowC (lay4 (sgnAt rows) d 0 0) d y, 0 ≤ c ∧ c ≤ 9 := fun c hc => by
      rw [hrow] at hc
      obtain ⟨z, hz, rfl⟩ := List.mem_map.mp hc
      have := h2 z hz
      omega
    unfold rowsT
    rw [List.getElem?_map, List.getElem?_range hy, er]
    show some _ = some _
    congr 1
    refine TL.ext_tl ?_
    rw [tl_figs hrg, hrow, List.map_map]
    refine (List.map_congr_left fun c hc => ?_).trans (List.map_id _)
    have := h2 c hc
    show 48 + (((c : Nat) : Int) - 48).toNat = c
    omega
  · rw [List.getElem?_eq_none (by simp [rowsT]; omega), List.getElem?_eq_none (by omega)]
theorem good_rev {rows : List Str} (h : goodR rows) : goodR rows.reverse := by
  obtain ⟨d, h1, h2, h3⟩ := h
  exact ⟨d, h1, by rw [List.length_reverse]; exact h2, fun r hr => by rw [List.length_reverse]; exact h3 r (List.mem_reverse.mp hr)⟩
/-! short texts of plain signs -/
def okT (n : Nat) (z : Str) : Prop := z.length ≤ n ∧ ∀ c ∈ TL.tl z, c < 1114112
theorem okT.mono {n m : Nat} {z : Str} (h : okT n z) (l : n ≤ m) : okT m z := ⟨Nat.le_trans h.1 l, h.2⟩
theorem okT.app {n m : Nat} {x y : Str} (hx : okT n x) (hy : okT m y) : okT (n + m) (x ++ y) := by
  refine ⟨by rw [app_lenR]; have := hx.1; have := hy.1; omega, fun c hc => ?_⟩
  rw [TL.tl_append] at hc
  exact (List.mem_append.mp hc).elim (hx.2 c) (hy.2 c)
theorem okT.cut {n : Nat} {z : Str} (h : okT n z) (lo hi : Option Int) : okT n (cutS z lo hi) := by
  refine ⟨Nat.le_trans (cutS_length z lo hi) h.1, fun c hc => h.2 c ?_⟩
  unfold cutS at hc
  have hc : c ∈ (z.cps.toList.drop (HT.sIx z.length 0 lo)).take (HT.sIx z.length z.length hi - HT.sIx z.length 0 lo) := by simpa [TL.tl] using hc
  exact List.mem_of_mem_drop (List.mem_of_mem_take hc)
theorem okT.one {c : Nat} (h : c < 1114112) : okT 1 ⟨#[c]⟩ := ⟨Nat.le_refl 1, fun d hd => by
  have : d = c := by simpa [TL.tl] using hd
  rw [this]; exact h⟩
theorem okT.lay {n : Nat} {z : Str} (h : okT n z) : PyData.canLay0 (.str z) = true := by
  show PyData.strOk z = true
  unfold PyData.strOk
  rw [Array.all_eq_true_iff_forall_mem]
  intro c hc
  exact decide_eq_true (h.2 c (by simpa [TL.tl] using hc))
theorem shaped_strs {n : Nat} {l : List Str} (h : ∀ z ∈ l, okT n z) : SeqAt.shaped (.list (l.map PyData.str)) = true := by
  have hl := lay_strs l fun z hz => (h z hz).lay
  simp [SeqAt.shaped, PyData.canLay0, hl, PyData.depth, dep_strs]
/-- joined texts of one sign -/
theorem okT.join {ys : List Str} (h : ∀ y ∈ ys, okT 1 y) : okT ys.length (Txt.join "" ys) := by
  have e0 : TL.tl ("" : Str) = [] := by decide +kernel
  have key : ∀ ys : List Str, (∀ y ∈ ys, okT 1 y) → ∀ c ∈ TL.joinL [] (ys.map TL.tl), c < 1114112 := fun ys => by
    induction ys with
    | nil => intro _ c hc; simp [TL.joinL] at hc
    | cons y ys ih =>
      intro h c hc
      cases ys with
      | nil => exact (h y (by simp)).2 c hc
      | cons z ys =>
        have e : TL.joinL [] ((y :: z :: ys).map TL.tl) = TL.tl y ++ ([] ++ TL.joinL [] ((z :: ys).map TL.tl)) := rfl
        rw [e] at hc
        rcases List.mem_append.mp hc with hc | hc
        · exact (h y (by simp)).2 c hc
        · exact ih (fun w hw => h w (by simp [hw])) c (by simpa using hc)
  refine ⟨?_, fun c hc => ?_⟩
  · refine Nat.le_trans str_lenR ?_
    have h1 := sum_leR (l := ys.map (·.length)) (n := 1) fun x hx => by
      obtain ⟨y, hy, rfl⟩ := List.mem_map.mp hx
      exact (h y hy).1
    have e1 : ("" : Str).length = 0 := by decide +kernel
    rw [List.length_map] at h1
    rw [e1]; omega
  · rw [TL.join_eq, TL.tl_join, e0] at hc
    exact key ys h c hc
theorem sameB {H H' : Hp} (s : Same H H') {b : Addr} (z : H' b = none) : H b = none := by
  cases e : H b with
  | none => rfl
  | some o => rw [s _ _ e] at z; cases z
theorem szS2 {n : Nat} {x y : Str} (h : okT n (x ++ y)) (l : n ≤ 100000) : x.length + y.length ≤ sizeLine := by
  have := h.1
  rw [app_lenR] at this
  exact sz1000 (by omega)
theorem k_revL {X : Cx} {e : Expr} {te : TE} {k : Nat} {p1 p2 p3 pos : Pos} (K : PySem.W.Frag) (he : PE X e te) (hK : X.K = K := by rfl) : PE X (.Subscript e (.Slice none none (some (.UnaryOp .USub (.Constant (.int 1) k p1) p2)) p3) pos) (tRevL K te) := by subst hK; exact pe_revL he
def rRevL (K : PySem.W.Frag) : V → Hp → VK → Prop := fun x H1 Q => ∃ a xs, x = .ref a ∧ SqL K H1 a xs ∧ ∀ p, H1 p = none → Q (.ref p) (upd H1 p (.lst xs.reverse))
theorem z_revL {K : PySem.W.Frag} {σ : L2.St} {H : Hp} {Q : VK} {te : TE} (h : te σ H fun x H1 => rRevL K x H1 Q) : tRevL K te σ H Q := h
theorem z_revLR {K : PySem.W.Frag} {H : Hp} {Q : VK} {a : Addr} {xs : List V} (h : SqL K H a xs) (k : ∀ p, H p = none → Q (.ref p) (upd H p (.lst xs.reverse))) : rRevL K (.ref a) H Q := ⟨a, xs, rfl, h, k⟩
end Mur
/-! The laws' own nodes of pictures, in a store that has met others. -/
namespace Mur
open PySem hiding start
open PySem.Spec L2
open PyProof.Rows hiding St
structure StandG (bs : List Pic) (C : Addr) (H : Hp) (p : Addr) (A : FA) (D : Addr → Prop) (ps : List Pic) (nl dl tl : Addr) (Ps : List Pic) (nds : List Nd) : Prop where
  F : FacesAt C H p A D ps
  N : NodesL H nl Ps nds
  dp : H dl = some (.lst (Ps.map fun P => V.int (P.depth : Nat)))
  td : H tl = some (.lst (Ps.map fun P => V.int (ix ps P : Nat)))
  mem : ∀ P ∈ Ps, P ∈ ps
  base : Base (bs ++ Ps) ps
  nn : ¬ D nl
  nd : ¬ D dl
  nt : ¬ D tl
  d1 : nl ≠ dl
  d2 : nl ≠ tl
  d3 : dl ≠ tl
  ten : 10 ≤ Ps.length
section
variable {bs : List Pic} {C : Addr} {H H' : Hp} {p : Addr} {A : FA} {D D' : Addr → Prop} {ps qs : List Pic} {nl dl tl : Addr} {Ps : List Pic} {nds : List Nd}
theorem StandG.same (h : StandG bs C H p A D ps nl dl tl Ps nds) (s : Same H H') : StandG bs C H' p A D ps nl dl tl Ps nds :=
  ⟨h.F.same s, h.N.same s, s _ _ h.dp, s _ _ h.td, h.mem, h.base, h.nn, h.nd, h.nt, h.d1, h.d2, h.d3, h.ten⟩
theorem StandG.after (h : StandG bs C H p A D ps nl dl tl Ps nds) (kp : Keep A.foot H H') (hF : FacesAt C H' p A D' (ps ++ qs)) (hB : Base (bs ++ Ps) (ps ++ qs)) (d2 : ∀ b, D' b → D b ∨ H b = none) : StandG bs C H' p A D' (ps ++ qs) nl dl tl Ps nds := by
  obtain ⟨_, ⟨vs, hv, _⟩, _⟩ := h.N
  refine ⟨hF, h.N.stay (kp.tup h.F) (fun vs e => kp _ _ e (h.F.ofFoot h.nn)), kp _ _ h.dp (h.F.ofFoot h.nd), ?_, fun P hP => List.mem_append_left _ (h.mem P hP), hB, fresh_not hv h.nn d2, fresh_not h.dp h.nd d2, fresh_not h.td h.nt d2, h.d1, h.d2, h.d3, h.ten⟩
  rw [kp _ _ h.td (h.F.ofFoot h.nt)]
  congr 2
  apply List.map_congr_left
  intro P hP
  rw [ix_app (h.mem P hP)]
theorem StandG.mid (h : StandG bs C H p A D ps nl dl tl Ps nds) (kp : Keep A.foot H H') (d2 : ∀ b, D' b → D b ∨ H b = none) (qs : List Pic) : NodesL H' nl Ps nds ∧ H' dl = some (.lst (Ps.map fun P => V.int (P.depth : Nat))) ∧ H' tl = some (.lst (Ps.map fun P => V.int (ix (ps ++ qs) P : Nat))) ∧
    (∀ P ∈ Ps, P ∈ ps ++ qs) ∧ ¬ D' nl ∧ ¬ D' dl ∧ ¬ D' tl := by
  obtain ⟨_, ⟨vs, hv, _⟩, _⟩ := h.N
  refine ⟨h.N.stay (kp.tup h.F) (fun vs e => kp _ _ e (h.F.ofFoot h.nn)), kp _ _ h.dp (h.F.ofFoot h.nd), ?_, fun P hP => List.mem_append_left _ (h.mem P hP), fresh_not hv h.nn d2, fresh_not h.dp h.nd d2, fresh_not h.td h.nt d2⟩
  rw [kp _ _ h.td (h.F.ofFoot h.nt)]
  congr 2
  apply List.map_congr_left
  intro P hP
  rw [ix_app (h.mem P hP)]
theorem StandG.updL (h : StandG bs C H p A D ps nl dl tl Ps nds) {L : Addr} {xs : List V} {o : HO} (hL : H L = some (.lst xs)) (nL : ¬ D L) (e1 : L ≠ nl) (e2 : L ≠ dl) (e3 : L ≠ tl) : StandG bs C (upd H L o) p A D ps nl dl tl Ps nds :=
  ⟨h.F.keep fun b u hb e => by rw [upd_ne (fun z => nL (by rw [← z]; exact hb))]; exact e, h.N.stay (tup_upd hL) (fun vs e => by rw [upd_ne e1.symm]; exact e), by rw [upd_ne e2.symm]; exact h.dp, by rw [upd_ne e3.symm]; exact h.td, h.mem, h.base, h.nn, h.nd, h.nt, h.d1, h.d2, h.d3, h.ten⟩
theorem StandG.push {P : Pic} {n : Nd} {v : V} {vs : List V} (hF : FacesAt C H p A D ps) (hN : NodesL H nl Ps nds) (hd : H dl = some (.lst (Ps.map fun P => V.int (P.depth : Nat)))) (ht : H tl = some (.lst (Ps.map fun P => V.int (ix ps P : Nat)))) (mem : ∀ P ∈ Ps, P ∈ ps)
    (base : Base (bs ++ (Ps ++ [P])) ps) (nn : ¬ D nl) (nd : ¬ D dl) (nt : ¬ D tl) (d1 : nl ≠ dl) (d2 : nl ≠ tl) (d3 : dl ≠ tl) (ten : 10 ≤ Ps.length) (hm : P ∈ ps) (is : NdIs Ps P n) (hv : Dv H v n.data) (hvs : H nl = some (.lst vs)) :
    StandG bs C (upd (upd (upd H nl (.lst (vs ++ [v]))) dl (.lst ((Ps.map fun P => V.int (P.depth : Nat)) ++ [.int (P.depth : Nat)]))) tl (.lst ((Ps.map fun P => V.int (ix ps P : Nat)) ++ [.int (ix ps P : Nat)]))) p A D ps nl dl tl (Ps ++ [P]) (nds ++ [n]) := by
  obtain ⟨hl, ⟨vs', e1, e2⟩, e3⟩ := hN
  obtain rfl : vs' = vs := by rw [hvs] at e1; injection e1 with e1; injection e1 with e1; exact e1.symm
  have k1 : ∀ a xs, H a = some (.tup xs) → (upd (upd (upd H nl (.lst (vs' ++ [v]))) dl (.lst ((Ps.map fun P => V.int (P.depth : Nat)) ++ [.int (P.depth : Nat)]))) tl (.lst ((Ps.map fun P => V.int (ix ps P : Nat)) ++ [.int (ix ps P : Nat)]))) a = some (.tup xs) := fun a xs e => by
    rw [upd_ne (ne_of e ht (by intro z; cases z)), upd_ne (ne_of e hd (by intro z; cases z)), upd_ne (ne_of e hvs (by intro z; cases z))]; exact e
  refine ⟨?_, ⟨by simp [hl], ⟨vs' ++ [v], by rw [upd_ne d2, upd_ne d1, upd_same], ?_⟩, ?_⟩, by rw [upd_ne d3, upd_same, List.map_append]; rfl, by rw [upd_same, List.map_append]; rfl, ?_, base, nn, nd, nt, d1, d2, d3, by simp; omega⟩
  · refine hF.keep fun b o hb e => ?_
    rw [upd_ne (fun z => nt (by rw [← z]; exact hb)), upd_ne (fun z => nd (by rw [← z]; exact hb)), upd_ne (fun z => nn (by rw [← z]; exact hb))]; exact e
  · rw [List.map_append]
    exact DvAll.snoc (dv_stay k1 n.flat hv) (dvAll_stay k1 (flat_nds nds) e2)
  · intro i P' n' h1 h2
    by_cases hi : i < Ps.length
    · rw [List.getElem?_append_left hi] at h1
      rw [List.getElem?_append_left (by omega)] at h2
      rw [List.take_append_of_le_length (by omega)]
      exact e3 i P' n' h1 h2
    · have hi2 : i = Ps.length := by
        have := (List.getElem?_eq_some_iff.mp h1).1
        simp at this; omega
      subst hi2
      rw [List.getElem?_append_right (Nat.le_refl _)] at h1
      rw [← hl, List.getElem?_append_right (Nat.le_refl _)] at h2
      simp at h1 h2
      subst h1 h2
      rw [List.take_append_of_le_length (Nat.le_refl _), List.take_of_length_le (Nat.le_refl _)]
      exact is
  · intro P' hP'
    rcases List.mem_append.mp hP' with z | z
    · exact mem P' z
    · simp at z; subst z; exact hm
theorem StandG.move {bs' : List Pic} (h : StandG bs C H p A D ps nl dl tl Ps nds) (kp : Keep A.foot H H') (hF : FacesAt C H' p A D' (ps ++ qs)) (hB : Base (bs' ++ Ps) (ps ++ qs)) (d2 : ∀ b, D' b → D b ∨ H b = none) : StandG bs' C H' p A D' (ps ++ qs) nl dl tl Ps nds :=
  StandG.after (bs := bs') ⟨h.F, h.N, h.dp, h.td, h.mem, hB.app, h.nn, h.nd, h.nt, h.d1, h.d2, h.d3, h.ten⟩ kp hF hB d2
theorem FacesAt.mv (hF : FacesAt C H p A D ps) (kp : Keep A.foot H H') (fr : ∀ b, D' b → D b ∨ H b = none) {b : Addr} {o : HO} (e : H b = some o) (n : ¬ D b) : H' b = some o ∧ ¬ D' b := ⟨kp _ _ e (hF.ofFoot n), fresh_not e n fr⟩
theorem frTrans {D1 D2 D3 : Addr → Prop} {H1 H2 : Hp} (hF : FacesAt C H2 p A D2 ps) (kp : Keep A.foot H1 H2) (f1 : ∀ b, D2 b → D1 b ∨ H1 b = none) (f2 : ∀ b, D3 b → D2 b ∨ H2 b = none) : ∀ b, D3 b → D1 b ∨ H1 b = none := fun b hb => (f2 b hb).elim (f1 b) fun z => .inr (back_fresh hF kp z)
theorem Keep.outS {F : Addr → Prop} {H0 H1 H2 : Hp} (s : Same H0 H1) (k : Keep F H1 H2) (f : ∀ b, F b → H0 b = none) : Same H0 H2 := fun a o e => k _ _ (s _ _ e) fun hf => by rw [f a hf] at e; cases e
end
/-! which pictures the cells ask for -/
def stepP (Ps : List Pic) (z : Int) : List Pic :=
  match quI z (Ps.length : Nat) with
  | [a, b, c, d] => if (Pic.mk (atP Ps a) (atP Ps b) (atP Ps c) (atP Ps d)).depth ≤ 12 then Ps ++ [Pic.mk (atP Ps a) (atP Ps b) (atP Ps c) (atP Ps d)] else Ps
  | _ => Ps
def runP (ms : List Int) : List Pic := ms.foldl stepP (plains 10)
theorem step_yes {Ps : List Pic} {z : Int} {a b c d : Int × Int} (e : quI z (Ps.length : Nat) = [a, b, c, d]) (h : (Pic.mk (atP Ps a) (atP Ps b) (atP Ps c) (atP Ps d)).depth ≤ 12) : stepP Ps z = Ps ++ [Pic.mk (atP Ps a) (atP Ps b) (atP Ps c) (atP Ps d)] := by
  unfold stepP; rw [e]; exact if_pos h
theorem step_no {Ps : List Pic} {z : Int} {a b c d : Int × Int} (e : quI z (Ps.length : Nat) = [a, b, c, d]) (h : ¬ (Pic.mk (atP Ps a) (atP Ps b) (atP Ps c) (atP Ps d)).depth ≤ 12) : stepP Ps z = Ps := by
  unfold stepP; rw [e]; exact if_neg h
theorem run_next {ms : List Int} {i : Nat} {z : Int} (e : ms[i]? = some z) : runP (ms.take (i + 1)) = stepP (runP (ms.take i)) z := by
  unfold runP
  rw [List.take_add_one, e]
  simp
theorem run_pre (ms : List Int) : ∃ r, runP ms = plains 10 ++ r := by
  have key : ∀ (ms : List Int) (acc : List Pic), (∃ r, acc = plains 10 ++ r) → ∃ r, ms.foldl stepP acc = plains 10 ++ r := fun ms => by
    induction ms with
    | nil => intro acc h; exact h
    | cons z ms ih =>
      rintro acc ⟨r, rfl⟩
      refine ih _ ?_
      unfold stepP
      split
      · split
        · exact ⟨_, List.append_assoc ..⟩
        · exact ⟨r, rfl⟩
      · exact ⟨r, rfl⟩
  exact key ms _ ⟨[], by rw [List.append_nil]⟩
theorem two_le {ps : List Pic} (h0 : .p 0 ∈ ps) (h1 : .p 1 ∈ ps) : 2 ≤ ps.length := by
  have a := ix_lt h0
  have b := ix_lt h1
  have : ix ps (.p 0) ≠ ix ps (.p 1) := fun e => by
    have := ix_get h0
    rw [e, ix_get h1] at this
    injection this with this
    injection this with this
    omega
  omega
theorem run_two {ms : List Int} {ps : List Pic} (h : ∀ P ∈ runP ms, P ∈ ps) : 2 ≤ ps.length := by
  obtain ⟨r, e⟩ := run_pre ms
  rw [e] at h
  exact two_le (h _ (List.mem_append_left _ (List.mem_of_getElem? (plains_get (n := 10) (k := 0) (by decide))))) (h _ (List.mem_append_left _ (List.mem_of_getElem? (plains_get (n := 10) (k := 1) (by decide)))))
theorem plains_succ (i : Nat) : plains (i + 1) = plains i ++ [.p (i : Int)] := by simp [plains, List.range_succ]
end Mur
namespace Mur
open PySem hiding start
open PySem.Spec L2
open PyProof.Rows hiding St
local macro_rules | `(tactic| walk_at "y1") => `(tactic| first
  | ((with_reducible refine' z_start ?zt ?_); (case zt => repeat constructor))
  | with_reducible refine z_seq ?_ | with_reducible refine z_asg ?_ | with_reducible refine z_op ?_ | ((with_reducible refine' z_var ?zv ?_); (case zv => exact rfl)) | with_reducible refine z_c ?_
  | with_reducible refine z_cons ?_ | with_reducible refine z_nil ?_ | with_reducible refine z_addI ?_ | with_reducible refine z_I0 ?_ | with_reducible refine z_eqI ?_ | with_reducible refine z_neI ?_ | with_reducible refine z_isN ?_ | with_reducible refine z_isB ?_
  | with_reducible refine z_eqS ?_ | with_reducible refine z_neS ?_ | with_reducible refine z_tTest ?_ | with_reducible refine z_tB ?_ | with_reducible refine z_bl ?_ | with_reducible refine z_blQ ?_
  | ((with_reducible refine' z_name ?zs ?_); (case zs => repeat constructor)) | with_reducible refine z_next ?_ | with_reducible refine z_ret ?_ | with_reducible refine z_retN ?_ | with_reducible refine z_drop ?_
  | with_reducible refine z_call ?_ | with_reducible refine z_callS ?_ | with_reducible refine z_cb ?_ | with_reducible refine z_and ?_ | with_reducible refine z_or ?_ | with_reducible refine z_not ?_ | with_reducible refine z_un ?_ | with_reducible refine z_U ?_ | with_reducible refine z_tup ?_ | with_reducible refine z_lst ?_
  | with_reducible refine z_par ?_ | ((with_reducible refine' z_par2 ?za ?zb ?_); (case za => repeat constructor); (case zb => repeat constructor))
  | with_reducible refine z_andV ?_ | with_reducible refine z_orV ?_ | with_reducible refine z_notV ?_ | with_reducible refine z_ifE ?_ | with_reducible refine z_chain ?_
  | with_reducible refine z_bm ?_ | with_reducible refine z_bm0 ?_ | with_reducible refine z_fld ?_ | with_reducible refine z_sfld ?_ | with_reducible refine z_dnewT ?_ | with_reducible refine z_augS ?_ | with_reducible refine z_gSub ?_ | with_reducible refine z_ipI ?_ | with_reducible refine z_lc ?_ | with_reducible refine z_tyes ?_ | with_reducible refine z_dnotin ?_ | with_reducible refine z_din ?_ | with_reducible refine z_dget ?_ | with_reducible refine z_dput ?_ | with_reducible refine z_dnewK ?_ | with_reducible refine z_meth ?_ | with_reducible refine z_lset ?_ | with_reducible refine z_sl ?_ | with_reducible refine z_noP ?_ | with_reducible refine z_part ?_ | with_reducible refine z_dget2 ?_ | with_reducible refine z_dget1 ?_ | with_reducible refine z_dpop ?_ | with_reducible refine z_kget ?_ | with_reducible refine z_revL ?_ | with_reducible refine z_keys ?_ | with_reducible refine z_enum ?_ | with_reducible refine z_methSl ?_ | with_reducible refine z_someI ?_ | with_reducible refine z_abs ?_ | with_reducible refine z_int1 ?_ | with_reducible refine z_intB ?_
  | with_reducible refine iteT ?_ | with_reducible refine iteF ?_ | with_reducible refine z_ntrue ?_ | with_reducible refine z_nfalse ?_ | with_reducible refine z_for ?_ | with_reducible refine z_zipA ?_ | with_reducible refine z_iList ?_ | with_reducible refine z_iTup ?_ | with_reducible refine z_rng1 ?_ | with_reducible refine z_rng2 ?_ | with_reducible refine z_gCons ?_ | with_reducible refine z_gNil ?_)
local macro_rules | `(tactic| walk_at "z1") => `(tactic| first | walk_at "y1" | with_reducible refine z_if ?_)
local macro_rules | `(tactic| walk_at "y") => `(tactic| repeat walk_at "y1")
local macro_rules | `(tactic| walk_at "z") => `(tactic| repeat walk_at "z1")
local macro_rules | `(tactic| walk_at "hs") => `(tactic| repeat (first | assumption | exact upd_same | refine same_to (by assumption) ?_))
local macro_rules | `(tactic| walk_at "zn") => `(tactic| (intro p hp; generalize hH : upd _ p _ = H2; have hs2 := new_same hp hH; have he2 := new_at hH; clear hH))
local macro_rules | `(tactic| walk_at "zt") => `(tactic| (refine ⟨sz1000 (by simp), ?_⟩; walk_at "zn"))
local macro_rules | `(tactic| walk_at "zw") => `(tactic| simp only [L2.wipe, List.map_cons, List.map_nil, List.set_cons_zero, List.set_cons_succ])
def top (i : Nat) : Stmt := PySem.Challenge.pw_murrine_k10_faces_stay.main.body.getD i (.Pass ⟨0, 0, 0, 0⟩)
abbrev sFaces___init__ : Stmt := inClass (top 16) 0
abbrev sFaces_stored : Stmt := inClass (top 16) 1
abbrev sFaces_plain : Stmt := inClass (top 16) 3
abbrev s_law_row : Stmt := top 19
abbrev s_law_picked : Stmt := top 20
abbrev s_law_quarters : Stmt := top 21
abbrev s_law_deep : Stmt := top 22
abbrev sFaces_need : Stmt := inClass (top 16) 2
abbrev sarea : Stmt := top 10
abbrev sFaces_four : Stmt := inClass (top 16) 4
abbrev sarranged : Stmt := top 11
abbrev sFaces_whirled : Stmt := inClass (top 16) 12
abbrev sFaces_turned : Stmt := inClass (top 16) 11
abbrev s_law_nodes : Stmt := top 23
abbrev sFaces_kind : Stmt := inClass (top 16) 13
abbrev sFaces_depth : Stmt := inClass (top 16) 5
abbrev s_law_there : Stmt := top 18
abbrev sFaces_quarters : Stmt := inClass (top 16) 6
abbrev sFaces_apart : Stmt := inClass (top 16) 15
abbrev s_law_numbered : Stmt := top 31
abbrev s_law_whole : Stmt := top 25
abbrev s_law_like : Stmt := top 26
abbrev s_law_spot : Stmt := top 27
abbrev sFaces_need_depth : Stmt := inClass (top 16) 8
abbrev sFaces_cell : Stmt := inClass (top 16) 9
abbrev s_law_from : Stmt := top 28
abbrev s_law_shade : Stmt := top 29
abbrev s_law_sure : Stmt := top 30
abbrev s_law_cell : Stmt := top 24
abbrev slaw : Stmt := top 32
structure Tx (w : World) (K : PySem.W.Frag) (mg : Str → Option Value) : Prop where
  g_law_row : mg "_law_row" = some (.ref (He.ga K "_law_row"))
  g_law_picked : mg "_law_picked" = some (.ref (He.ga K "_law_picked"))
  g_law_quarters : mg "_law_quarters" = some (.ref (He.ga K "_law_quarters"))
  g_law_deep : mg "_law_deep" = some (.ref (He.ga K "_law_deep"))
  garea : mg "area" = some (.ref (He.ga K "area"))
  garranged : mg "arranged" = some (.ref (He.ga K "arranged"))
  g_law_nodes : mg "_law_nodes" = some (.ref (He.ga K "_law_nodes"))
  g_law_there : mg "_law_there" = some (.ref (He.ga K "_law_there"))
  g_law_numbered : mg "_law_numbered" = some (.ref (He.ga K "_law_numbered"))
  g_law_whole : mg "_law_whole" = some (.ref (He.ga K "_law_whole"))
  g_law_like : mg "_law_like" = some (.ref (He.ga K "_law_like"))
  g_law_spot : mg "_law_spot" = some (.ref (He.ga K "_law_spot"))
  g_law_from : mg "_law_from" = some (.ref (He.ga K "_law_from"))
  g_law_shade : mg "_law_shade" = some (.ref (He.ga K "_law_shade"))
  g_law_sure : mg "_law_sure" = some (.ref (He.ga K "_law_sure"))
  g_law_cell : mg "_law_cell" = some (.ref (He.ga K "_law_cell"))
  glaw : mg "law" = some (.ref (He.ga K "law"))
  gGlassError : mg "GlassError" = some (.ref (He.ga K "GlassError"))
  eGlassError : PySem.W.excIn K (He.ga K "GlassError") He.veBase "ValueError.__new__" = true ∧ PySem.W.keepIn K (.ref (He.ga K "GlassError")) = true ∧ PySem.W.subIn K (.ref (He.ga K "GlassError")) (.type "BaseException") = some true ∧ PySem.W.typeIn K (.ref (He.ga K "GlassError")) = some (.type "type")
  gBadColour : mg "BadColour" = some (.ref (He.ga K "BadColour"))
  eBadColour : PySem.W.excIn K (He.ga K "BadColour") He.veBase "ValueError.__new__" = true ∧ PySem.W.keepIn K (.ref (He.ga K "BadColour")) = true ∧ PySem.W.subIn K (.ref (He.ga K "BadColour")) (.type "BaseException") = some true ∧ PySem.W.typeIn K (.ref (He.ga K "BadColour")) = some (.type "type")
  gNoFace : mg "NoFace" = some (.ref (He.ga K "NoFace"))
  eNoFace : PySem.W.excIn K (He.ga K "NoFace") He.veBase "ValueError.__new__" = true ∧ PySem.W.keepIn K (.ref (He.ga K "NoFace")) = true ∧ PySem.W.subIn K (.ref (He.ga K "NoFace")) (.type "BaseException") = some true ∧ PySem.W.typeIn K (.ref (He.ga K "NoFace")) = some (.type "type")
  gTooDeep : mg "TooDeep" = some (.ref (He.ga K "TooDeep"))
  eTooDeep : PySem.W.excIn K (He.ga K "TooDeep") He.veBase "ValueError.__new__" = true ∧ PySem.W.keepIn K (.ref (He.ga K "TooDeep")) = true ∧ PySem.W.subIn K (.ref (He.ga K "TooDeep")) (.type "BaseException") = some true ∧ PySem.W.typeIn K (.ref (He.ga K "TooDeep")) = some (.type "type")
  gBadDepth : mg "BadDepth" = some (.ref (He.ga K "BadDepth"))
  eBadDepth : PySem.W.excIn K (He.ga K "BadDepth") He.veBase "ValueError.__new__" = true ∧ PySem.W.keepIn K (.ref (He.ga K "BadDepth")) = true ∧ PySem.W.subIn K (.ref (He.ga K "BadDepth")) (.type "BaseException") = some true ∧ PySem.W.typeIn K (.ref (He.ga K "BadDepth")) = some (.type "type")
  gNoCell : mg "NoCell" = some (.ref (He.ga K "NoCell"))
  eNoCell : PySem.W.excIn K (He.ga K "NoCell") He.veBase "ValueError.__new__" = true ∧ PySem.W.keepIn K (.ref (He.ga K "NoCell")) = true ∧ PySem.W.subIn K (.ref (He.ga K "NoCell")) (.type "BaseException") = some true ∧ PySem.W.typeIn K (.ref (He.ga K "NoCell")) = some (.type "type")
  gBadTurn : mg "BadTurn" = some (.ref (He.ga K "BadTurn"))
  eBadTurn : PySem.W.excIn K (He.ga K "BadTurn") He.veBase "ValueError.__new__" = true ∧ PySem.W.keepIn K (.ref (He.ga K "BadTurn")) = true ∧ PySem.W.subIn K (.ref (He.ga K "BadTurn")) (.type "BaseException") = some true ∧ PySem.W.typeIn K (.ref (He.ga K "BadTurn")) = some (.type "type")
  gFaces : mg "Faces" = some (.ref (He.ga K "Faces"))
  cFaces : Cls K (He.ga K "Faces")
  kFaces : Mk K (He.ga K "Faces") (He.ma K (He.ga K "Faces") "__init__")
  mFaces_stored : Meth K (He.ga K "Faces") "stored" (He.ma K (He.ga K "Faces") "stored")
  mFaces_plain : Meth K (He.ga K "Faces") "plain" (He.ma K (He.ga K "Faces") "plain")
  mFaces_need : Meth K (He.ga K "Faces") "need" (He.ma K (He.ga K "Faces") "need")
  mFaces_four : Meth K (He.ga K "Faces") "four" (He.ma K (He.ga K "Faces") "four")
  mFaces_whirled : Meth K (He.ga K "Faces") "whirled" (He.ma K (He.ga K "Faces") "whirled")
  mFaces_turned : Meth K (He.ga K "Faces") "turned" (He.ma K (He.ga K "Faces") "turned")
  mFaces_kind : Meth K (He.ga K "Faces") "kind" (He.ma K (He.ga K "Faces") "kind")
  mFaces_depth : Meth K (He.ga K "Faces") "depth" (He.ma K (He.ga K "Faces") "depth")
  mFaces_quarters : Meth K (He.ga K "Faces") "quarters" (He.ma K (He.ga K "Faces") "quarters")
  mFaces_apart : Meth K (He.ga K "Faces") "apart" (He.ma K (He.ga K "Faces") "apart")
  mFaces_need_depth : Meth K (He.ga K "Faces") "need_depth" (He.ma K (He.ga K "Faces") "need_depth")
  mFaces_cell : Meth K (He.ga K "Faces") "cell" (He.ma K (He.ga K "Faces") "cell")
  aFaces_nodes : NoAttr K (He.ga K "Faces") "nodes"
  aFaces_depths : NoAttr K (He.ga K "Faces") "depths"
  aFaces_sums : NoAttr K (He.ga K "Faces") "sums"
  aFaces_known : NoAttr K (He.ga K "Faces") "known"
  aFaces_whirls : NoAttr K (He.ga K "Faces") "whirls"
  xNoFace_NoFace : PySem.W.exmOne K (.ref (He.ga K "NoFace")) (.ref (He.ga K "NoFace")) = some true
  uValueError : mg "ValueError" = none
  uabs : mg "abs" = none
  ubool : mg "bool" = none
  uint : mg "int" = none
  uisinstance : mg "isinstance" = none
  ulen : mg "len" = none
  ulist : mg "list" = none
  umax : mg "max" = none
  umin : mg "min" = none
  urange : mg "range" = none
  ustr : mg "str" = none
  utuple : mg "tuple" = none
  uzip : mg "zip" = none
  iCOLOURS : ∃ t, mg "COLOURS" = some (.int 10 t)
  iDEEPEST : ∃ t, mg "DEEPEST" = some (.int 12 t)
  iFINEST : ∃ t, mg "FINEST" = some (.int 20 t)
  fFaces___init__ : ∃ fd, FunD K "__init__" "Faces.__init__" (defArgs sFaces___init__) (defBody sFaces___init__) (defScope sFaces___init__) [] [] (He.ma K (He.ga K "Faces") "__init__") fd
  fFaces_stored : ∃ fd, FunD K "stored" "Faces.stored" (defArgs sFaces_stored) (defBody sFaces_stored) (defScope sFaces_stored) [] [] (He.ma K (He.ga K "Faces") "stored") fd
  fFaces_plain : ∃ fd, FunD K "plain" "Faces.plain" (defArgs sFaces_plain) (defBody sFaces_plain) (defScope sFaces_plain) [] [] (He.ma K (He.ga K "Faces") "plain") fd
  f_law_row : ∃ fd, FunD K "_law_row" "_law_row" (defArgs s_law_row) (defBody s_law_row) (defScope s_law_row) [] [] (He.ga K "_law_row") fd
  f_law_picked : ∃ fd, FunD K "_law_picked" "_law_picked" (defArgs s_law_picked) (defBody s_law_picked) (defScope s_law_picked) [] [] (He.ga K "_law_picked") fd
  f_law_quarters : ∃ fd, FunD K "_law_quarters" "_law_quarters" (defArgs s_law_quarters) (defBody s_law_quarters) (defScope s_law_quarters) [] [] (He.ga K "_law_quarters") fd
  f_law_deep : ∃ fd, FunD K "_law_deep" "_law_deep" (defArgs s_law_deep) (defBody s_law_deep) (defScope s_law_deep) [] [] (He.ga K "_law_deep") fd
  fFaces_need : ∃ fd, FunD K "need" "Faces.need" (defArgs sFaces_need) (defBody sFaces_need) (defScope sFaces_need) [] [] (He.ma K (He.ga K "Faces") "need") fd
  farea : ∃ fd, FunD K "area" "area" (defArgs sarea) (defBody sarea) (defScope sarea) [] [] (He.ga K "area") fd
  fFaces_four : ∃ fd, FunD K "four" "Faces.four" (defArgs sFaces_four) (defBody sFaces_four) (defScope sFaces_four) [] [] (He.ma K (He.ga K "Faces") "four") fd
  farranged : ∃ fd, FunD K "arranged" "arranged" (defArgs sarranged) (defBody sarranged) (defScope sarranged) [] [] (He.ga K "arranged") fd
  fFaces_whirled : ∃ fd, FunD K "whirled" "Faces.whirled" (defArgs sFaces_whirled) (defBody sFaces_whirled) (defScope sFaces_whirled) [] [] (He.ma K (He.ga K "Faces") "whirled") fd
  fFaces_turned : ∃ fd, FunD K "turned" "Faces.turned" (defArgs sFaces_turned) (defBody sFaces_turned) (defScope sFaces_turned) [] [] (He.ma K (He.ga K "Faces") "turned") fd
  f_law_nodes : ∃ fd, FunD K "_law_nodes" "_law_nodes" (defArgs s_law_nodes) (defBody s_law_nodes) (defScope s_law_nodes) [] [] (He.ga K "_law_nodes") fd
  fFaces_kind : ∃ fd, FunD K "kind" "Faces.kind" (defArgs sFaces_kind) (defBody sFaces_kind) (defScope sFaces_kind) [] [] (He.ma K (He.ga K "Faces") "kind") fd
  fFaces_depth : ∃ fd, FunD K "depth" "Faces.depth" (defArgs sFaces_depth) (defBody sFaces_depth) (defScope sFaces_depth) [] [] (He.ma K (He.ga K "Faces") "depth") fd
  f_law_there : ∃ fd, FunD K "_law_there" "_law_there" (defArgs s_law_there) (defBody s_law_there) (defScope s_law_there) [] [] (He.ga K "_law_there") fd
  fFaces_quarters : ∃ fd, FunD K "quarters" "Faces.quarters" (defArgs sFaces_quarters) (defBody sFaces_quarters) (defScope sFaces_quarters) [] [] (He.ma K (He.ga K "Faces") "quarters") fd
  fFaces_apart : ∃ fd, FunD K "apart" "Faces.apart" (defArgs sFaces_apart) (defBody sFaces_apart) (defScope sFaces_apart) [] [] (He.ma K (He.ga K "Faces") "apart") fd
  f_law_numbered : ∃ fd, FunD K "_law_numbered" "_law_numbered" (defArgs s_law_numbered) (defBody s_law_numbered) (defScope s_law_numbered) [] [] (He.ga K "_law_numbered") fd
  f_law_whole : ∃ fd, FunD K "_law_whole" "_law_whole" (defArgs s_law_whole) (defBody s_law_whole) (defScope s_law_whole) [] [] (He.ga K "_law_whole") fd
  f_law_like : ∃ fd, FunD K "_law_like" "_law_like" (defArgs s_law_like) (defBody s_law_like) (defScope s_law_like) [] [] (He.ga K "_law_like") fd
  f_law_spot : ∃ fd, FunD K "_law_spot" "_law_spot" (defArgs s_law_spot) (defBody s_law_spot) (defScope s_law_spot) [] [] (He.ga K "_law_spot") fd
  fFaces_need_depth : ∃ fd, FunD K "need_depth" "Faces.need_depth" (defArgs sFaces_need_depth) (defBody sFaces_need_depth) (defScope sFaces_need_depth) [] [] (He.ma K (He.ga K "Faces") "need_depth") fd
  fFaces_cell : ∃ fd, FunD K "cell" "Faces.cell" (defArgs sFaces_cell) (defBody sFaces_cell) (defScope sFaces_cell) [] [] (He.ma K (He.ga K "Faces") "cell") fd
  f_law_from : ∃ fd, FunD K "_law_from" "_law_from" (defArgs s_law_from) (defBody s_law_from) (defScope s_law_from) [] [] (He.ga K "_law_from") fd
  f_law_shade : ∃ fd, FunD K "_law_shade" "_law_shade" (defArgs s_law_shade) (defBody s_law_shade) (defScope s_law_shade) [] [] (He.ga K "_law_shade") fd
  f_law_sure : ∃ fd, FunD K "_law_sure" "_law_sure" (defArgs s_law_sure) (defBody s_law_sure) (defScope s_law_sure) [] [] (He.ga K "_law_sure") fd
  f_law_cell : ∃ fd, FunD K "_law_cell" "_law_cell" (defArgs s_law_cell) (defBody s_law_cell) (defScope s_law_cell) [] [] (He.ga K "_law_cell") fd
  flaw : ∃ fd, FunD K "law" "law" (defArgs slaw) (defBody slaw) (defScope slaw) [] [] (He.ga K "law") fd
def spLaw (K : PySem.W.Frag) : Sp := fun vs H Q _ => ∃ (a : Addr) (ns : List Int), vs = [.ref a] ∧ SqL K H a (ns.map V.int) ∧ ns.length ≤ 63 ∧ (∀ z ∈ ns, Builtin.Int.intBits z ≤ 1048576) ∧ ∀ H', Q (.bl true) H'

def dFaces___init__ : He.DefD := ⟨("Faces", some "__init__"), "__init__", "Faces.__init__", defArgs sFaces___init__, defBody sFaces___init__, defScope sFaces___init__, [], []⟩
def dFaces_stored : He.DefD := ⟨("Faces", some "stored"), "stored", "Faces.stored", defArgs sFaces_stored, defBody sFaces_stored, defScope sFaces_stored, [], []⟩
def dFaces_plain : He.DefD := ⟨("Faces", some "plain"), "plain", "Faces.plain", defArgs sFaces_plain, defBody sFaces_plain, defScope sFaces_plain, [], []⟩
def d_law_row : He.DefD := ⟨("_law_row", none), "_law_row", "_law_row", defArgs s_law_row, defBody s_law_row, defScope s_law_row, [], []⟩
def d_law_picked : He.DefD := ⟨("_law_picked", none), "_law_picked", "_law_picked", defArgs s_law_picked, defBody s_law_picked, defScope s_law_picked, [], []⟩
def d_law_quarters : He.DefD := ⟨("_law_quarters", none), "_law_quarters", "_law_quarters", defArgs s_law_quarters, defBody s_law_quarters, defScope s_law_quarters, [], []⟩
def d_law_deep : He.DefD := ⟨("_law_deep", none), "_law_deep", "_law_deep", defArgs s_law_deep, defBody s_law_deep, defScope s_law_deep, [], []⟩
def dFaces_need : He.DefD := ⟨("Faces", some "need"), "need", "Faces.need", defArgs sFaces_need, defBody sFaces_need, defScope sFaces_need, [], []⟩
def darea : He.DefD := ⟨("area", none), "area", "area", defArgs sarea, defBody sarea, defScope sarea, [], []⟩
def dFaces_four : He.DefD := ⟨("Faces", some "four"), "four", "Faces.four", defArgs sFaces_four, defBody sFaces_four, defScope sFaces_four, [], []⟩
def darranged : He.DefD := ⟨("arranged", none), "arranged", "arranged", defArgs sarranged, defBody sarranged, defScope sarranged, [], []⟩
def dFaces_whirled : He.DefD := ⟨("Faces", some "whirled"), "whirled", "Faces.whirled", defArgs sFaces_whirled, defBody sFaces_whirled, defScope sFaces_whirled, [], []⟩
def dFaces_turned : He.DefD := ⟨("Faces", some "turned"), "turned", "Faces.turned", defArgs sFaces_turned, defBody sFaces_turned, defScope sFaces_turned, [], []⟩
def d_law_nodes : He.DefD := ⟨("_law_nodes", none), "_law_nodes", "_law_nodes", defArgs s_law_nodes, defBody s_law_nodes, defScope s_law_nodes, [], []⟩
def dFaces_kind : He.DefD := ⟨("Faces", some "kind"), "kind", "Faces.kind", defArgs sFaces_kind, defBody sFaces_kind, defScope sFaces_kind, [], []⟩
def dFaces_depth : He.DefD := ⟨("Faces", some "depth"), "depth", "Faces.depth", defArgs sFaces_depth, defBody sFaces_depth, defScope sFaces_depth, [], []⟩
def d_law_there : He.DefD := ⟨("_law_there", none), "_law_there", "_law_there", defArgs s_law_there, defBody s_law_there, defScope s_law_there, [], []⟩
def dFaces_quarters : He.DefD := ⟨("Faces", some "quarters"), "quarters", "Faces.quarters", defArgs sFaces_quarters, defBody sFaces_quarters, defScope sFaces_quarters, [], []⟩
def dFaces_apart : He.DefD := ⟨("Faces", some "apart"), "apart", "Faces.apart", defArgs sFaces_apart, defBody sFaces_apart, defScope sFaces_apart, [], []⟩
def d_law_numbered : He.DefD := ⟨("_law_numbered", none), "_law_numbered", "_law_numbered", defArgs s_law_numbered, defBody s_law_numbered, defScope s_law_numbered, [], []⟩
def d_law_whole : He.DefD := ⟨("_law_whole", none), "_law_whole", "_law_whole", defArgs s_law_whole, defBody s_law_whole, defScope s_law_whole, [], []⟩
def d_law_like : He.DefD := ⟨("_law_like", none), "_law_like", "_law_like", defArgs s_law_like, defBody s_law_like, defScope s_law_like, [], []⟩
def d_law_spot : He.DefD := ⟨("_law_spot", none), "_law_spot", "_law_spot", defArgs s_law_spot, defBody s_law_spot, defScope s_law_spot, [], []⟩
def dFaces_need_depth : He.DefD := ⟨("Faces", some "need_depth"), "need_depth", "Faces.need_depth", defArgs sFaces_need_depth, defBody sFaces_need_depth, defScope sFaces_need_depth, [], []⟩
def dFaces_cell : He.DefD := ⟨("Faces", some "cell"), "cell", "Faces.cell", defArgs sFaces_cell, defBody sFaces_cell, defScope sFaces_cell, [], []⟩
def d_law_from : He.DefD := ⟨("_law_from", none), "_law_from", "_law_from", defArgs s_law_from, defBody s_law_from, defScope s_law_from, [], []⟩
def d_law_shade : He.DefD := ⟨("_law_shade", none), "_law_shade", "_law_shade", defArgs s_law_shade, defBody s_law_shade, defScope s_law_shade, [], []⟩
def d_law_sure : He.DefD := ⟨("_law_sure", none), "_law_sure", "_law_sure", defArgs s_law_sure, defBody s_law_sure, defScope s_law_sure, [], []⟩
def d_law_cell : He.DefD := ⟨("_law_cell", none), "_law_cell", "_law_cell", defArgs s_law_cell, defBody s_law_cell, defScope s_law_cell, [], []⟩
def dlaw : He.DefD := ⟨("law", none), "law", "law", defArgs slaw, defBody slaw, defScope slaw, [], []⟩
def hfn0 : List He.DefD := [dFaces___init__, dFaces_stored, dFaces_plain, d_law_row, d_law_picked, d_law_quarters, d_law_deep, dFaces_need, darea, dFaces_four, darranged, dFaces_whirled, dFaces_turned, d_law_nodes, dFaces_kind, dFaces_depth, d_law_there, dFaces_quarters, dFaces_apart, d_law_numbered, d_law_whole, d_law_like, d_law_spot, dFaces_need_depth, dFaces_cell]
def hfn1 : List He.DefD := [d_law_from, d_law_shade, d_law_sure, d_law_cell, dlaw]
def hfn : List He.DefD := hfn0 ++ hfn1
def hfa0 : List He.Fa := [.glo "_law_row", .glo "_law_picked", .glo "_law_quarters", .glo "_law_deep", .glo "area", .glo "arranged", .glo "_law_nodes", .glo "_law_there", .glo "_law_numbered", .glo "_law_whole", .glo "_law_like", .glo "_law_spot", .glo "_law_from", .glo "_law_shade", .glo "_law_sure", .glo "_law_cell", .glo "law", .glo "GlassError", .exc "GlassError", .glo "BadColour", .exc "BadColour", .glo "NoFace", .exc "NoFace", .glo "TooDeep", .exc "TooDeep"]
def hfa1 : List He.Fa := [.glo "BadDepth", .exc "BadDepth", .glo "NoCell", .exc "NoCell", .glo "BadTurn", .exc "BadTurn", .glo "Faces", .cls "Faces", .mkr "Faces", .meth "Faces" "stored", .meth "Faces" "plain", .meth "Faces" "need", .meth "Faces" "four", .meth "Faces" "whirled", .meth "Faces" "turned", .meth "Faces" "kind", .meth "Faces" "depth", .meth "Faces" "quarters", .meth "Faces" "apart", .meth "Faces" "need_depth", .meth "Faces" "cell", .noat "Faces" "nodes", .noat "Faces" "depths", .noat "Faces" "sums", .noat "Faces" "known"]
def hfa2 : List He.Fa := [.noat "Faces" "whirls", .exm "NoFace" "NoFace" true, .free "ValueError", .free "abs", .free "bool", .free "int", .free "isinstance", .free "len", .free "list", .free "max", .free "min", .free "range", .free "str", .free "tuple", .free "zip", .int "COLOURS" 10, .int "DEEPEST" 12, .int "FINEST" 20]
def hfa : List He.Fa := hfa0 ++ hfa1 ++ hfa2
def hloose0 : List Str := ["_wall", "GlassError", "BadColour", "NoFace", "TooDeep", "BadDepth", "NoCell", "BadTurn", "area", "arranged", "COLOURS", "DEEPEST", "FINEST", "Faces", "_law_there", "_law_row", "_law_picked", "_law_quarters", "_law_deep", "_law_nodes", "_law_cell", "_law_whole", "_law_like", "_law_spot", "_law_from"]
def hloose1 : List Str := ["_law_shade", "_law_sure", "_law_numbered"]
def hloose : List Str := hloose0 ++ hloose1
abbrev hR : PySem.W.OpenRow := PySem.W.OpenLaw.row PySem.Challenge.rw_murrine_k10_faces_stay
abbrev hk : PySem.W.Hook := He.hookD 4 hfa hfn
def hob (s : PySem.W.SharedT) : He.AlD := He.obsDG 4 hfa hfn (HandSHeadRun.getT s)
theorem hob_eq (s : PySem.W.SharedT) : hob s = hk.obs s.abs := He.obsDG_eq (HandSHeadRun.getT_eq s)
abbrev hRun (w : World) : Prop := HandSHeadRun.RunEq hR (PySem.W.view hR.prog [32]) hk hob 8000 hloose w
theorem hrun (w : World) : hRun w := by
  intro os
  kernel_rfl
theorem tx_of {w : World} {K : PySem.W.Frag} {h : Heap} {mg : Str → Option Value} (X : K.In h) (G : h.Ns mainGlobals mg) (c : He.SaysD hfa hfn K) : Tx w K mg where
  g_law_row := He.glo_ok X G (c.fact 0 rfl)
  g_law_picked := He.glo_ok X G (c.fact 1 rfl)
  g_law_quarters := He.glo_ok X G (c.fact 2 rfl)
  g_law_deep := He.glo_ok X G (c.fact 3 rfl)
  garea := He.glo_ok X G (c.fact 4 rfl)
  garranged := He.glo_ok X G (c.fact 5 rfl)
  g_law_nodes := He.glo_ok X G (c.fact 6 rfl)
  g_law_there := He.glo_ok X G (c.fact 7 rfl)
  g_law_numbered := He.glo_ok X G (c.fact 8 rfl)
  g_law_whole := He.glo_ok X G (c.fact 9 rfl)
  g_law_like := He.glo_ok X G (c.fact 10 rfl)
  g_law_spot := He.glo_ok X G (c.fact 11 rfl)
  g_law_from := He.glo_ok X G (c.fact 12 rfl)
  g_law_shade := He.glo_ok X G (c.fact 13 rfl)
  g_law_sure := He.glo_ok X G (c.fact 14 rfl)
  g_law_cell := He.glo_ok X G (c.fact 15 rfl)
  glaw := He.glo_ok X G (c.fact 16 rfl)
  gGlassError := He.glo_ok X G (c.fact 17 rfl)
  eGlassError := He.exc_ok (c.fact 18 rfl)
  gBadColour := He.glo_ok X G (c.fact 19 rfl)
  eBadColour := He.exc_ok (c.fact 20 rfl)
  gNoFace := He.glo_ok X G (c.fact 21 rfl)
  eNoFace := He.exc_ok (c.fact 22 rfl)
  gTooDeep := He.glo_ok X G (c.fact 23 rfl)
  eTooDeep := He.exc_ok (c.fact 24 rfl)
  gBadDepth := He.glo_ok X G (c.fact 25 rfl)
  eBadDepth := He.exc_ok (c.fact 26 rfl)
  gNoCell := He.glo_ok X G (c.fact 27 rfl)
  eNoCell := He.exc_ok (c.fact 28 rfl)
  gBadTurn := He.glo_ok X G (c.fact 29 rfl)
  eBadTurn := He.exc_ok (c.fact 30 rfl)
  gFaces := He.glo_ok X G (c.fact 31 rfl)
  cFaces := He.cls_ok (c.fact 32 rfl)
  kFaces := He.mkr_ok (c.fact 33 rfl)
  mFaces_stored := He.meth_ok (c.fact 34 rfl)
  mFaces_plain := He.meth_ok (c.fact 35 rfl)
  mFaces_need := He.meth_ok (c.fact 36 rfl)
  mFaces_four := He.meth_ok (c.fact 37 rfl)
  mFaces_whirled := He.meth_ok (c.fact 38 rfl)
  mFaces_turned := He.meth_ok (c.fact 39 rfl)
  mFaces_kind := He.meth_ok (c.fact 40 rfl)
  mFaces_depth := He.meth_ok (c.fact 41 rfl)
  mFaces_quarters := He.meth_ok (c.fact 42 rfl)
  mFaces_apart := He.meth_ok (c.fact 43 rfl)
  mFaces_need_depth := He.meth_ok (c.fact 44 rfl)
  mFaces_cell := He.meth_ok (c.fact 45 rfl)
  aFaces_nodes := He.noat_ok (c.fact 46 rfl)
  aFaces_depths := He.noat_ok (c.fact 47 rfl)
  aFaces_sums := He.noat_ok (c.fact 48 rfl)
  aFaces_known := He.noat_ok (c.fact 49 rfl)
  aFaces_whirls := He.noat_ok (c.fact 50 rfl)
  xNoFace_NoFace := He.exm_ok (c.fact 51 rfl)
  uValueError := He.free_ok X G (c.fact 52 rfl)
  uabs := He.free_ok X G (c.fact 53 rfl)
  ubool := He.free_ok X G (c.fact 54 rfl)
  uint := He.free_ok X G (c.fact 55 rfl)
  uisinstance := He.free_ok X G (c.fact 56 rfl)
  ulen := He.free_ok X G (c.fact 57 rfl)
  ulist := He.free_ok X G (c.fact 58 rfl)
  umax := He.free_ok X G (c.fact 59 rfl)
  umin := He.free_ok X G (c.fact 60 rfl)
  urange := He.free_ok X G (c.fact 61 rfl)
  ustr := He.free_ok X G (c.fact 62 rfl)
  utuple := He.free_ok X G (c.fact 63 rfl)
  uzip := He.free_ok X G (c.fact 64 rfl)
  iCOLOURS := He.int_ok X G (c.fact 65 rfl)
  iDEEPEST := He.int_ok X G (c.fact 66 rfl)
  iFINEST := He.int_ok X G (c.fact 67 rfl)
  fFaces___init__ := c.def_ 0 (d := dFaces___init__) rfl
  fFaces_stored := c.def_ 1 (d := dFaces_stored) rfl
  fFaces_plain := c.def_ 2 (d := dFaces_plain) rfl
  f_law_row := c.def_ 3 (d := d_law_row) rfl
  f_law_picked := c.def_ 4 (d := d_law_picked) rfl
  f_law_quarters := c.def_ 5 (d := d_law_quarters) rfl
  f_law_deep := c.def_ 6 (d := d_law_deep) rfl
  fFaces_need := c.def_ 7 (d := dFaces_need) rfl
  farea := c.def_ 8 (d := darea) rfl
  fFaces_four := c.def_ 9 (d := dFaces_four) rfl
  farranged := c.def_ 10 (d := darranged) rfl
  fFaces_whirled := c.def_ 11 (d := dFaces_whirled) rfl
  fFaces_turned := c.def_ 12 (d := dFaces_turned) rfl
  f_law_nodes := c.def_ 13 (d := d_law_nodes) rfl
  fFaces_kind := c.def_ 14 (d := dFaces_kind) rfl
  fFaces_depth := c.def_ 15 (d := dFaces_depth) rfl
  f_law_there := c.def_ 16 (d := d_law_there) rfl
  fFaces_quarters := c.def_ 17 (d := dFaces_quarters) rfl
  fFaces_apart := c.def_ 18 (d := dFaces_apart) rfl
  f_law_numbered := c.def_ 19 (d := d_law_numbered) rfl
  f_law_whole := c.def_ 20 (d := d_law_whole) rfl
  f_law_like := c.def_ 21 (d := d_law_like) rfl
  f_law_spot := c.def_ 22 (d := d_law_spot) rfl
  fFaces_need_depth := c.def_ 23 (d := dFaces_need_depth) rfl
  fFaces_cell := c.def_ 24 (d := dFaces_cell) rfl
  f_law_from := c.def_ 25 (d := d_law_from) rfl
  f_law_shade := c.def_ 26 (d := d_law_shade) rfl
  f_law_sure := c.def_ 27 (d := d_law_sure) rfl
  f_law_cell := c.def_ 28 (d := d_law_cell) rfl
  flaw := c.def_ 29 (d := dlaw) rfl
def spInitF (C : Addr) : Sp := fun vs H Q _ => ∃ p dx : Addr, vs = [.ref p] ∧ H p = some (.ins C dx []) ∧ ∀ H' A D, (∀ b o, H b = some o → b ≠ p → H' b = some o) → FacesAt C H' p A D [] → (∀ b, D b → b = p ∨ H b = none) → Q .non H'
theorem z_mkFaces {C : Addr} {σ : L2.St} {H : Hp} {Q : VK} {E : XK} (k : ∀ H' p A D, Same H H' → FacesAt C H' p A D [] → (∀ b, D b → H b = none) → Q (.ref p) H') : tMake C (spInitF C) [] E tNil σ H Q := by
  intro x dx hx hdx hne
  refine ⟨x, dx, rfl, upd_same, fun H' A D h1 h2 h3 => ⟨rfl, k H' x A D (fun b o e => h1 b o (by rw [upd_ne (ne_of_none e hx), upd_ne (ne_of_none e hdx)]; exact e) (ne_of_none e hx)) h2 fun b hb => ?_⟩⟩
  rcases h3 b hb with rfl | z
  · exact hx
  · by_cases e1 : b = x
    · rw [e1]; exact hx
    · rw [upd_ne e1] at z
      by_cases e2 : b = dx
      · rw [e2]; exact hdx
      · rw [upd_ne e2] at z; exact z
abbrev nFaces___init__ : List Str := ["self"]
abbrev pFaces___init__ : List Str := ["self"]
theorem scFaces___init__ : FnScope nFaces___init__ pFaces___init__ (defScope sFaces___init__) := ⟨rfl, rfl, rfl, by decide +kernel, rfl, by decide +kernel, by decide +kernel⟩
theorem ok_Faces___init__ {P : Program} {w : World} {K : PySem.W.Frag} {mg : Str → Option Value} {base : Heap} (T : Tx w K mg) : Fk P w K mg base 1 (He.ma K (He.ga K "Faces") "__init__") pFaces___init__ (spInitF (He.ga K "Faces")) := by
  refine Fk.mk' T.fFaces___init__ scFaces___init__ (fun _ _ _ _ _ _ us hl => match us, hl with | [_], _ => rfl) (by
  intro vs H Q E h
  repeat (first | (obtain ⟨h1, _⟩ := h; subst h1; rfl) | (obtain ⟨_, h⟩ := h))) (fun cdv A outer s H vs Q E hr h => ?_)
  have hu := hu_of hr
  have hu64 := hr.units
  refine ⟨_, (pss_cons (k_sfld K (pv 0) (pe_lst pa_nil) rfl)
  (pss_cons (k_sfld K (pv 0) (pe_lst pa_nil) rfl)
  (pss_cons (k_sfld K (pv 0) (pe_lst pa_nil) rfl)
  (pss_cons (k_sfld K (pv 0) pe_dnewT rfl)
  (pss_one (k_sfld K (pv 0) pe_dnewT rfl)))))), ?_⟩
  try dsimp only [cxOf]
  obtain ⟨p, dx, rfl, hp, q⟩ := h
  walk_at "z"
  refine ⟨sz1000 (by simp), fun n hn => ?_⟩
  walk_at "z"
  refine z_sfldR (fs' := [("nodes", .ref n)]) (by rw [upd_ne (ne_of_none hp hn)]; exact hp) T.cFaces T.aFaces_nodes (by simp) (by rfl) ?_
  have st := init_step (o := .lst []) (fs' := [("nodes", .ref n)]) hp hn
  generalize upd (upd H n _) p _ = H1 at st ⊢
  obtain ⟨hp1, fn, k1, np⟩ := st
  walk_at "z"
  refine ⟨sz1000 (by simp), fun d hd => ?_⟩
  walk_at "z"
  refine z_sfldR (fs' := [("nodes", .ref n), ("depths", .ref d)]) (by rw [upd_ne (ne_of_none hp1 hd)]; exact hp1) T.cFaces T.aFaces_depths (by simp) (by rfl) ?_
  have st := init_step (o := .lst []) (fs' := [("nodes", .ref n), ("depths", .ref d)]) hp1 hd
  generalize upd (upd H1 d _) p _ = H2 at st ⊢
  obtain ⟨hp2, fd, k2, dp⟩ := st
  walk_at "z"
  refine ⟨sz1000 (by simp), fun s2 hs2 => ?_⟩
  walk_at "z"
  refine z_sfldR (fs' := [("nodes", .ref n), ("depths", .ref d), ("sums", .ref s2)]) (by rw [upd_ne (ne_of_none hp2 hs2)]; exact hp2) T.cFaces T.aFaces_sums (by simp) (by rfl) ?_
  have st := init_step (o := .lst []) (fs' := [("nodes", .ref n), ("depths", .ref d), ("sums", .ref s2)]) hp2 hs2
  generalize upd (upd H2 s2 _) p _ = H3 at st ⊢
  obtain ⟨hp3, fs2, k3, s2p⟩ := st
  walk_at "z"
  intro k hk
  walk_at "z"
  refine z_sfldR (fs' := [("nodes", .ref n), ("depths", .ref d), ("sums", .ref s2), ("known", .ref k)]) (by rw [upd_ne (ne_of_none hp3 hk)]; exact hp3) T.cFaces T.aFaces_known (by simp) (by rfl) ?_
  have st := init_step (o := .dT []) (fs' := [("nodes", .ref n), ("depths", .ref d), ("sums", .ref s2), ("known", .ref k)]) hp3 hk
  generalize upd (upd H3 k _) p _ = H4 at st ⊢
  obtain ⟨hp4, fk, k4, kp⟩ := st
  walk_at "z"
  intro w2 hw2
  walk_at "z"
  refine z_sfldR (fs' := [("nodes", .ref n), ("depths", .ref d), ("sums", .ref s2), ("known", .ref k), ("whirls", .ref w2)]) (by rw [upd_ne (ne_of_none hp4 hw2)]; exact hp4) T.cFaces T.aFaces_whirls (by simp) (by rfl) ?_
  have st := init_step (o := .dT []) (fs' := [("nodes", .ref n), ("depths", .ref d), ("sums", .ref s2), ("known", .ref k), ("whirls", .ref w2)]) hp4 hw2
  generalize upd (upd H4 w2 _) p _ = H5 at st ⊢
  obtain ⟨hp5, fw2, k5, w2p⟩ := st
  walk_at "z"
  have gn := k5 _ _ (k4 _ _ (k3 _ _ (k2 _ _ fn np) np) np) np
  have gd := k5 _ _ (k4 _ _ (k3 _ _ fd dp) dp) dp
  have gs := k5 _ _ (k4 _ _ fs2 s2p) s2p
  have gk := k5 _ _ fk kp
  have hn0 : ∀ b u, H b = some u → b ≠ p → H5 b = some u := fun b u e h => k5 _ _ (k4 _ _ (k3 _ _ (k2 _ _ (k1 _ _ e h) h) h) h) h
  have bk : ∀ {b : Addr} {Ha Hb : Hp}, (∀ b u, Ha b = some u → b ≠ p → Hb b = some u) → b ≠ p → Hb b = none → Ha b = none := fun {b Ha Hb} k hb e => by
    cases q : Ha b with
    | none => rfl
    | some u => rw [k b u q hb] at e; cases e
  refine q H5 ⟨n, d, s2, k, w2⟩ (fun b => b = p ∨ b = n ∨ b = d ∨ b = s2 ∨ b = k ∨ b = w2) hn0 ⟨⟨dx, hp5⟩, ⟨[], gn, rfl, fun i a P e1 e2 => by simp at e1⟩, gd, ⟨[], gs, rfl, fun i a P e1 e2 => by simp at e1⟩, ⟨[], gk, KnOk.nil⟩, ⟨[], fw2, WhOk.nil⟩, PInv.nil, .inl rfl, ?_, ?_, ?_⟩ ?_
  · rintro b (rfl | rfl | rfl | rfl | rfl) <;> simp
  · rintro b (rfl | rfl | rfl | rfl | rfl | rfl)
    · exact ⟨_, hp5⟩
    · exact ⟨_, gn⟩
    · exact ⟨_, gd⟩
    · exact ⟨_, gs⟩
    · exact ⟨_, gk⟩
    · exact ⟨_, fw2⟩
  · exact ⟨ne_of_none fn hd, ne_of_none (k2 _ _ fn np) hs2, ne_of_none fd hs2, ne_of_none fk hw2⟩
  · rintro b (rfl | rfl | rfl | rfl | rfl | rfl)
    · exact .inl rfl
    · exact .inr hn
    · exact .inr (bk k1 dp hd)
    · exact .inr (bk k1 s2p (bk k2 s2p hs2))
    · exact .inr (bk k1 kp (bk k2 kp (bk k3 kp hk)))
    · exact .inr (bk k1 w2p (bk k2 w2p (bk k3 w2p (bk k4 w2p hw2))))
def spStored (C : Addr) : Sp := fun vs H Q _ => ∃ p A D ps P, ∃ t sm : Addr, vs = [.ref p, .ref t, .int (P.depth : Nat), .ref sm] ∧ FacesAt C H p A D ps ∧ H t = some (.tup ((nodeOf ps P).map V.int)) ∧ H sm = some (.lst (P.sums.map V.int)) ∧ ¬ A.foot sm ∧
  PartsIn ps P ∧ P.ok ∧ ps.length < 100000 ∧ ∀ H' D', Keep A.foot H H' → FacesAt C H' p A D' (addP ps P) → (∀ b, D b → D' b) → (∀ b, D' b → D b ∨ b = t ∨ b = sm) → Q (.int (ix (addP ps P) P : Nat)) H'
abbrev nFaces_stored : List Str := ["self", "node", "deep", "sums"]
abbrev pFaces_stored : List Str := ["self", "node", "deep", "sums"]
theorem scFaces_stored : FnScope nFaces_stored pFaces_stored (defScope sFaces_stored) := ⟨rfl, rfl, rfl, by decide +kernel, rfl, by decide +kernel, by decide +kernel⟩
theorem ok_Faces_stored {P : Program} {w : World} {K : PySem.W.Frag} {mg : Str → Option Value} {base : Heap} (T : Tx w K mg) : Fk P w K mg base 1 (He.ma K (He.ga K "Faces") "stored") pFaces_stored (spStored (He.ga K "Faces")) := by
  refine Fk.mk' T.fFaces_stored scFaces_stored (fun _ _ _ _ _ _ us hl => match us, hl with | [_, _, _, _], _ => rfl) (by
  intro vs H Q E h
  repeat (first | (obtain ⟨h1, _⟩ := h; subst h1; rfl) | (obtain ⟨_, h⟩ := h))) (fun cdv A outer s H vs Q E hr h => ?_)
  have hu := hu_of hr
  have hu64 := hr.units
  refine ⟨_, (pss_cons (ps_if (pt_cmp (pc_dnotin hu (pv 1) (k_fld K (pv 0) rfl))) (pss_cons (ps_dput hu (k_fld K (pv 0) rfl) (pv 1) (pe_callB (k_len K) (by rfl) T.ulen (by decide +kernel) (pa_cons (k_fld K (pv 0) rfl) pa_nil)) rfl)
  (pss_cons (ps_expr (k_bm K PySem.F.plainAttrs_list PySem.F.slot_list_append PySem.F.type_list_append mt_append (k_fld K (pv 0) rfl) (pa_cons (pv 1) pa_nil)))
  (pss_cons (ps_expr (k_bm K PySem.F.plainAttrs_list PySem.F.slot_list_append PySem.F.type_list_append mt_append (k_fld K (pv 0) rfl) (pa_cons (pv 2) pa_nil)))
  (pss_one (ps_expr (k_bm K PySem.F.plainAttrs_list PySem.F.slot_list_append PySem.F.type_list_append mt_append (k_fld K (pv 0) rfl) (pa_cons (pv 3) pa_nil))))))) pss_nil)
  (pss_one (ps_ret (pe_dget hu (k_fld K (pv 0) rfl) (pv 1) (fun _ _ => rfl))))), ?_⟩
  try dsimp only [cxOf]
  obtain ⟨p, A, D, ps, P, t, sm, rfl, hF, ht, hsm, nf, pin, ok, hl, q⟩ := h
  obtain ⟨dx, ob⟩ := hF.ob
  obtain ⟨ns, hn, n2, n3⟩ := hF.nodes
  obtain ⟨ss, hs, s2, s3⟩ := hF.sums
  obtain ⟨kvs, hk, k2⟩ := hF.known
  have ek : (key (nodeOf ps P)).map kV = (nodeOf ps P).map V.int := by simp [key, kV, Function.comp_def]
  have hv := k2.val P pin
  have nk : A.n ≠ A.k := ne_of hn hk (by intro z; cases z)
  have dk : A.d ≠ A.k := ne_of hF.depths hk (by intro z; cases z)
  have sk : A.s ≠ A.k := ne_of hs hk (by intro z; cases z)
  have pf := foot_p hF
  have tf := foot_tup hF ht
  obtain ⟨ap1, ap2, ap3, ap4⟩ := hF.ap
  walk_at "z"
  refine z_fldR ob T.cFaces T.aFaces_known lkFaces_known ?_
  refine z_dniR (DGet.t (k := key (nodeOf ps P)) hk (by rw [ek]; exact ht)) ?_
  walk_at "z"
  rw [hv]
  by_cases hP : P ∈ ps
  · rw [if_pos hP]
    refine iteF ?_
    walk_at "z"
    refine z_fldR ob T.cFaces T.aFaces_known lkFaces_known ?_
    walk_at "z"
    have e : addP ps P = ps := if_pos hP
    refine z_dgetR (v := .int (ix ps P : Nat)) ?_ ?_
    · have g := DGet.t (k := key (nodeOf ps P)) hk (by rw [ek]; exact ht)
      rw [hv, if_pos hP] at g
      exact g
    · rw [e] at q
      exact q H D (Keep.refl _ _) hF (fun _ h => h) fun b h => .inl h
  · have hst := hF.stored (t := t) (sm := sm) hn hs hk ht hsm nf pin ok hP
    have e : addP ps P = ps ++ [P] := if_neg hP
    rw [if_neg hP]
    refine iteT ?_
    walk_at "z"
    refine z_fldR ob T.cFaces T.aFaces_nodes lkFaces_nodes ?_
    walk_at "z"
    refine z_lenL (SqL.of hn) ?_
    walk_at "z"
    rw [List.length_map, n2]
    refine z_fldR ob T.cFaces T.aFaces_known lkFaces_known ?_
    walk_at "z"
    refine z_dputR (DPut.t (k := key (nodeOf ps P)) hk (by rw [ek]; exact ht) (by rw [k2.len]; exact szlt (by omega))) ?_
    walk_at "z"
    have pk : p ≠ A.k := fun z => pf (by rw [z]; exact .inr (.inr (.inr (.inl rfl))))
    have pn : p ≠ A.n := fun z => pf (by rw [z]; exact .inl rfl)
    have pd : p ≠ A.d := fun z => pf (by rw [z]; exact .inr (.inl rfl))
    have ps3 : p ≠ A.s := fun z => pf (by rw [z]; exact .inr (.inr (.inl rfl)))
    refine z_fldR (by rw [upd_ne pk]; exact ob) T.cFaces T.aFaces_nodes lkFaces_nodes ?_
    refine z_tyL (SqL.of (by rw [upd_ne nk]; exact hn)) ?_
    walk_at "z"
    refine z_app (by rw [upd_ne nk]; exact hn) (by rw [List.length_map]; exact szlt (by omega)) ?_
    walk_at "z"
    refine z_fldR (by rw [upd_ne pn, upd_ne pk]; exact ob) T.cFaces T.aFaces_depths lkFaces_depths ?_
    refine z_tyL (SqL.of (by rw [upd_ne ap1.symm, upd_ne dk]; exact hF.depths)) ?_
    walk_at "z"
    refine z_app (by rw [upd_ne ap1.symm, upd_ne dk]; exact hF.depths) (by rw [List.length_map]; exact szlt (by omega)) ?_
    walk_at "z"
    refine z_fldR (by rw [upd_ne pd, upd_ne pn, upd_ne pk]; exact ob) T.cFaces T.aFaces_sums lkFaces_sums ?_
    refine z_tyL (SqL.of (by rw [upd_ne ap3.symm, upd_ne ap2.symm, upd_ne sk]; exact hs)) ?_
    walk_at "z"
    refine z_app (by rw [upd_ne ap3.symm, upd_ne ap2.symm, upd_ne sk]; exact hs) (by rw [List.length_map]; exact szlt (by omega)) ?_
    walk_at "z"
    obtain ⟨kp, hF2⟩ := hst
    generalize upd (upd (upd (upd H A.k _) A.n _) A.d _) A.s _ = H4 at kp hF2 ⊢
    obtain ⟨dx2, ob2⟩ := hF2.ob
    obtain ⟨kv2, hk2, kn2⟩ := hF2.known
    refine z_fldR ob2 T.cFaces T.aFaces_known lkFaces_known ?_
    walk_at "z"
    have hv2 := kn2.val P pin.app
    rw [if_pos (by simp), node_app pin] at hv2
    refine z_dgetR (v := .int (ix (ps ++ [P]) P : Nat)) ?_ ?_
    · have g := DGet.t (k := key (nodeOf ps P)) hk2 (by rw [ek]; exact kp _ _ ht tf)
      rw [hv2] at g
      exact g
    · rw [e] at q
      exact q H4 _ kp hF2 (fun b h => .inl h) (fun b h => h)
def spPlain (C B : Addr) : Sp := fun vs H Q E => ∃ p A D ps, ∃ c : Int, vs = [.ref p, .int c] ∧ FacesAt C H p A D ps ∧ ps.length < 100000 ∧ (¬ (0 ≤ c ∧ c ≤ 9) → E (.ref B) none H) ∧
  ((0 ≤ c ∧ c ≤ 9) → After C H p A D (addP ps (.p c)) fun H' => Q (.int (ix (addP ps (.p c)) (.p c) : Nat)) H')
abbrev nFaces_plain : List Str := ["self", "colour", "k"]
abbrev pFaces_plain : List Str := ["self", "colour"]
theorem scFaces_plain : FnScope nFaces_plain pFaces_plain (defScope sFaces_plain) := ⟨rfl, rfl, rfl, by decide +kernel, rfl, by decide +kernel, by decide +kernel⟩
theorem ok_Faces_plain {P : Program} {w : World} {K : PySem.W.Frag} {mg : Str → Option Value} {base : Heap} (T : Tx w K mg) : Fk P w K mg base 2 (He.ma K (He.ga K "Faces") "plain") pFaces_plain (spPlain (He.ga K "Faces") (He.ga K "BadColour")) := by
  have GFaces_stored := ok_Faces_stored (P := P) (w := w) (base := base) T
  refine Fk.mk' T.fFaces_plain scFaces_plain (fun _ _ _ _ _ _ us hl => match us, hl with | [_, _], _ => rfl) (by
  intro vs H Q E h
  repeat (first | (obtain ⟨h1, _⟩ := h; subst h1; rfl) | (obtain ⟨_, h⟩ := h))) (fun cdv A outer s H vs Q E hr h => ?_)
  have hu := hu_of hr
  have hu64 := hr.units
  refine ⟨_, (pss_cons (ps_if (PW.pt (pw_or (pt_cmpR op_lt (pv 1) pe_int (nomark _)) (pw_or1 (pt_cmpR op_ge (pv 1) (q_int T.iCOLOURS) (nomark _))))) (pss_one (ps_raise rfl takesX (pmk_own PySem.F.excBase_ValueError T.eBadColour.1 T.gBadColour T.eBadColour.2.1 (raises_own T.eBadColour.2.2.1 T.eBadColour.2.2.2) (by rfl)))) pss_nil)
  (pss_one (ps_ret (q_meth (pv 0) T.cFaces T.mFaces_stored GFaces_stored (hr.mono (by omega)) passX (pa_cons (pe_tup (pa_cons (pv 1) pa_nil)) (pa_cons pe_int (pa_cons (pe_lc (own := [("k", 2)]) (g := gName 2) rfl scFaces_plain.nd (pi_range1 (by rfl) T.urange (pa_cons (q_int T.iCOLOURS) pa_nil)) (blkOk_by (own := [("k", 2)]) (N := nFaces_plain) (sc := defScope sFaces_plain) (by decide +kernel)) (fun _ _ _ _ _ => pg_name (i := 2) scFaces_plain.nd rfl (Or.inl rfl)) (fun _ _ _ _ _ => pts_nil) (fun _ _ _ _ _ => (pe_callTy call_intU (by rfl) T.uint (by decide +kernel) (pa_cons (pe_cmpR (k_eq K hu64) (pv 2) (pv 1) (nomark _)) pa_nil)))) pa_nil))))))), ?_⟩
  try dsimp only [cxOf]
  obtain ⟨p, A, D, ps, c, rfl, hF, hl, e, q⟩ := h
  obtain ⟨dx, ob⟩ := hF.ob
  walk_at "z"
  refine z_ite (fun c1 => ?_) (fun c1 => ?_)
  · walk_at "z"
    exact e (by omega)
  walk_at "z"
  refine z_ite (fun c2 => ?_) (fun c2 => ?_)
  · walk_at "z"
    exact e (by omega)
  walk_at "z"
  refine z_methR ob noFaces_stored ?_
  walk_at "z"
  refine ⟨sz1000 (by simp), fun t ht => ?_⟩
  walk_at "z"
  refine ⟨_, rfl, by decide, by decide, fun L hL => ?_⟩
  refine lc_range (lo := 0) (n := 10) (fun i H' => H' = upd (upd H t (.tup [V.int c])) L (.lst (((List.range i).map fun k : Nat => (if (k : Int) = c then 1 else 0)).map V.int))) rfl ?_ ?_
  · rintro i H' hi rfl
    walk_at "zw"
    walk_at "z"
    refine ⟨rfl, ?_⟩
    walk_at "z"
    refine ⟨_, upd_same, szlt (by simp; omega), ?_⟩
    rw [upd_upd, List.range_succ, List.map_append, List.map_append]
    have e2 : (if (decide ((0 : Int) + (i : Nat) = c)) = true then (1 : Int) else 0) = if (i : Int) = c then 1 else 0 := by
      by_cases h : (i : Int) = c
      · rw [if_pos (by simpa using h), if_pos h]
      · rw [if_neg (by simpa using h), if_neg h]
    rw [e2]
    rfl
  · rintro H' rfl
    walk_at "z"
    have hc : 0 ≤ c ∧ c ≤ 9 := by omega
    have tL : t ≠ L := ne_of_none upd_same hL
    have hL0 : H L = none := by rw [upd_ne tL.symm] at hL; exact hL
    have sm : Same H (upd (upd H t (.tup [V.int c])) L (.lst (((List.range 10).map fun k : Nat => (if (k : Int) = c then (1 : Int) else 0)).map V.int))) := (Same.new ht).set hL0
    have fL : ∀ b, A.foot b → H b ≠ none := fun b hb z => by
      obtain ⟨ns, hn, _⟩ := hF.nodes
      obtain ⟨ss, hs, _⟩ := hF.sums
      obtain ⟨kvs, hk, _⟩ := hF.known
      obtain ⟨wh, hw, _⟩ := hF.whirl
      rcases hb with rfl | rfl | rfl | rfl | rfl
      · rw [hn] at z; cases z
      · rw [hF.depths] at z; cases z
      · rw [hs] at z; cases z
      · rw [hk] at z; cases z
      · rw [hw] at z; cases z
    refine ⟨p, A, D, ps, .p c, t, L, rfl, hF.same sm, ?_, upd_same, fun z => fL L z hL0, (fun Q hQ => by simp [Pic.parts] at hQ), hc, hl, fun H' D' kp hF' d1 d2 => ?_⟩
    · rw [upd_ne tL]
      exact upd_same
    · refine q hc H' D' (sm.keep.trans kp) hF' d1 fun b hb => ?_
      rcases d2 b hb with z | rfl | rfl
      · exact .inl z
      · exact .inr ht
      · exact .inr hL0
def spRow : Sp := fun vs H Q _ => ∃ (z : Int) (m : Nat) (b : Int), vs = [.int z, .int (m : Nat), .int b] ∧ m ≤ 1000 ∧ 0 < b ∧ b < 100000000000 ∧ ∀ H' l, Same H H' → H l = none → H' l = some (.lst ((rowI z m b).map V.int)) → Q (.ref l) H'
abbrev n_law_row : List Str := ["_law_cell_here", "_law_many", "_law_base", "_law_found", "_law_k", "_law_turn"]
abbrev p_law_row : List Str := ["_law_cell_here", "_law_many", "_law_base"]
theorem sc_law_row : FnScope n_law_row p_law_row (defScope s_law_row) := ⟨rfl, rfl, rfl, by decide +kernel, rfl, by decide +kernel, by decide +kernel⟩
theorem ok__law_row {P : Program} {w : World} {K : PySem.W.Frag} {mg : Str → Option Value} {base : Heap} (T : Tx w K mg) : Fk P w K mg base 1 (He.ga K "_law_row") p_law_row (spRow) := by
  refine Fk.mk' T.f_law_row sc_law_row (fun _ _ _ _ _ _ us hl => match us, hl with | [_, _, _], _ => rfl) (by
  intro vs H Q E h
  repeat (first | (obtain ⟨h1, _⟩ := h; subst h1; rfl) | (obtain ⟨_, h⟩ := h))) (fun cdv A outer s H vs Q E hr h => ?_)
  have hu := hu_of hr
  have hu64 := hr.units
  refine ⟨_, (pss_cons (ps_set (i := 3) sc_law_row.nd rfl (Or.inl rfl) (pe_lst pa_nil))
  (pss_cons (ps_set (i := 0) sc_law_row.nd rfl (Or.inl rfl) (pe_callB call_absU (by rfl) T.uabs (by decide +kernel) (pa_cons (pv 0) pa_nil)))
  (pss_cons (ps_if (pt_cmpR op_ge (pv 0) (pe_op op_pow pe_int pe_int) (nomark _)) (pss_cons (ps_for (passes_of rfl) rfl (pi_range1 (by rfl) T.urange (pa_cons (pv 1) pa_nil)) (pg_name (i := 4) sc_law_row.nd rfl (Or.inl rfl)) (pss_cons (ps_expr (k_bm K PySem.F.plainAttrs_list PySem.F.slot_list_append PySem.F.type_list_append mt_append (pv 3) (pa_cons (pe_op op_mod (pv 0) (pv 2)) pa_nil)))
  (pss_one (ps_set (i := 0) sc_law_row.nd rfl (Or.inl rfl) (pe_op op_fdivW (pv 0) (pv 2))))))
  (pss_one (ps_ret (pv 3)))) pss_nil)
  (pss_cons (ps_set (i := 5) sc_law_row.nd rfl (Or.inl rfl) (pe_op op_mod (pe_op op_mulU (pe_op (k_add K) (pe_op op_mod (pv 0) pe_int) pe_int) pe_int) pe_int))
  (pss_cons (ps_for (passes_of rfl) rfl (pi_range1 (by rfl) T.urange (pa_cons (pv 1) pa_nil)) (pg_name (i := 4) sc_law_row.nd rfl (Or.inl rfl)) (pss_cons (ps_set (i := 5) sc_law_row.nd rfl (Or.inl rfl) (pe_op op_mod (pe_op (k_add K) (pe_op (k_add K) (pe_op op_mulU (pv 5) pe_int) (pe_op op_mulU pe_int (pv 4))) pe_int) pe_int))
  (pss_one (ps_expr (k_bm K PySem.F.plainAttrs_list PySem.F.slot_list_append PySem.F.type_list_append mt_append (pv 3) (pa_cons (pe_op op_mod (pe_op op_fdivW (pv 5) pe_int) (pv 2)) pa_nil))))))
  (pss_one (ps_ret (pv 3)))))))), ?_⟩
  try dsimp only [cxOf]
  obtain ⟨z, m, b, rfl, hm, hb, hb2, q⟩ := h
  walk_at "z"
  walk_at "zt"
  rename_i L nL H1 s1 f1
  walk_at "z"
  refine z_I ⟨by decide, by decide, by decide⟩ ?_
  walk_at "z"
  have ea : (if z < 0 then -z else z) = absI z := rfl
  rw [ea]
  unfold rowI at q
  refine z_ite (fun c => ?_) (fun c => ?_)
  · have c' : (1000000000000000000 : Int) ≤ absI z := c
    rw [if_pos c'] at q
    generalize absI z = a at q
    walk_at "z"
    refine ⟨_, rfl, by omega, by omega, ?_⟩
    rw [Int.toNat_natCast]
    refine for_range (fun i σ H' => Same H H' ∧ H' L = some (.lst ((List.range i).map fun j : Nat => V.int (zsI b j a % b))) ∧ ∃ k, σ = [some (.int (zsI b i a)), some (.int (m : Nat)), some (.int b), some (.ref L), k, none]) ⟨s1, f1, none, rfl⟩ ?_ ?_
    · rintro i σ H' hi ⟨s2, f2, k, rfl⟩
      walk_at "z"
      refine z_tyL (SqL.of f2) ?_
      walk_at "z"
      refine z_I hb ?_
      walk_at "z"
      refine z_app f2 (by simp; exact szlt (by omega)) ?_
      walk_at "z"
      refine z_I (divW hb (by omega)) ?_
      walk_at "z"
      exact ⟨s2.set nL, by rw [upd_same, List.range_succ, List.map_append]; rfl, _, rfl⟩
    · rintro σ H' ⟨s2, f2, k, rfl⟩
      walk_at "z"
      exact q H' L s2 nL (by rw [f2, List.map_map]; rfl)
  · have c' : ¬ (1000000000000000000 : Int) ≤ absI z := c
    rw [if_neg c'] at q
    generalize absI z = a at q
    walk_at "z"
    refine z_I (by decide) ?_
    walk_at "z"
    have h0 := Int.emod_nonneg a (show (1000003 : Int) ≠ 0 by decide)
    have h1 := Int.emod_lt_of_pos a (show (0 : Int) < 1000003 by decide)
    refine z_mulI (mulS (by omega) (by decide)) ?_
    walk_at "z"
    refine z_I (by decide) ?_
    walk_at "z"
    have g0 := Int.emod_nonneg ((a % 1000003 + 17) * 69621) (show (2147483647 : Int) ≠ 0 by decide)
    have g1 := Int.emod_lt_of_pos ((a % 1000003 + 17) * 69621) (show (0 : Int) < 2147483647 by decide)
    generalize (a % 1000003 + 17) * 69621 % 2147483647 = t at q g0 g1 ⊢
    refine ⟨_, rfl, by omega, by omega, ?_⟩
    rw [Int.toNat_natCast]
    refine for_range (fun i σ H' => Same H H' ∧ H' L = some (.lst ((List.range i).map fun j : Nat => V.int (tsI (j + 1) t / 1021 % b))) ∧ ∃ k, σ = [some (.int a), some (.int (m : Nat)), some (.int b), some (.ref L), k, some (.int (tsI i t))]) ⟨s1, f1, none, rfl⟩ ?_ ?_
    · rintro i σ H' hi ⟨s2, f2, k, rfl⟩
      have hr := ts_rg g0 g1 i
      walk_at "z"
      refine z_mulI (mulS (by omega) (by decide)) ?_
      walk_at "z"
      refine z_mulI (mulS (by decide) (by omega)) ?_
      walk_at "z"
      refine z_I (by decide) ?_
      walk_at "z"
      refine z_tyL (SqL.of f2) ?_
      walk_at "z"
      refine z_I (divW (by decide) (by decide)) ?_
      walk_at "z"
      refine z_I hb ?_
      walk_at "z"
      refine z_app f2 (by simp; exact szlt (by omega)) ?_
      walk_at "z"
      have e0 : (0 : Int) + (i : Nat) = (i : Nat) := Int.zero_add _
      rw [e0]
      exact ⟨s2.set nL, by rw [upd_same, List.range_succ, List.map_append]; rfl, _, rfl⟩
    · rintro σ H' ⟨s2, f2, k, rfl⟩
      walk_at "z"
      exact q H' L s2 nL (by rw [f2, List.map_map]; rfl)
def spPick : Sp := fun vs H Q _ => ∃ f o m : Int, vs = [.int f, .int o, .int m] ∧ Q (.int (pickI f o m)) H
abbrev n_law_picked : List Str := ["_law_figure", "_law_other", "_law_many"]
abbrev p_law_picked : List Str := ["_law_figure", "_law_other", "_law_many"]
theorem sc_law_picked : FnScope n_law_picked p_law_picked (defScope s_law_picked) := ⟨rfl, rfl, rfl, by decide +kernel, rfl, by decide +kernel, by decide +kernel⟩
theorem ok__law_picked {P : Program} {w : World} {K : PySem.W.Frag} {mg : Str → Option Value} {base : Heap} (T : Tx w K mg) : Fk P w K mg base 1 (He.ga K "_law_picked") p_law_picked (spPick) := by
  refine Fk.mk' T.f_law_picked sc_law_picked (fun _ _ _ _ _ _ us hl => match us, hl with | [_, _, _], _ => rfl) (by
  intro vs H Q E h
  repeat (first | (obtain ⟨h1, _⟩ := h; subst h1; rfl) | (obtain ⟨_, h⟩ := h))) (fun cdv A outer s H vs Q E hr h => ?_)
  have hu := hu_of hr
  have hu64 := hr.units
  refine ⟨_, (pss_cons (ps_if (PW.pt (pw_and (pt_cmpR (k_eq K hu64) (pe_op op_mod (pv 0) pe_int) pe_int (nomark _)) (pw_and1 (pt_cmpR op_gt (pv 2) pe_int (nomark _))))) (pss_one (ps_ret (pe_callB (call_max2 rfl) (by rfl) T.umax (by decide +kernel) (pa_cons pe_int (pa_cons (pe_op op_sub (pe_op op_sub (pv 2) pe_int) (pe_op op_mod (pv 1) pe_int)) pa_nil))))) pss_nil)
  (pss_one (ps_ret (pv 1)))), ?_⟩
  try dsimp only [cxOf]
  obtain ⟨f, o, m, rfl, q⟩ := h
  unfold pickI at q
  walk_at "z"
  refine z_I (by decide) ?_
  walk_at "z"
  refine z_ite (fun c => ?_) (fun c => ?_)
  · walk_at "z"
    refine z_ite (fun c2 => ?_) (fun c2 => ?_)
    · rw [if_pos ⟨c, c2⟩] at q
      walk_at "z"
      refine z_I (by decide) ?_
      walk_at "z"
      exact ⟨_, _, rfl, q⟩
    · rw [if_neg (fun z => c2 z.2)] at q
      walk_at "z"
      exact q
  · rw [if_neg (fun z => c z.1)] at q
    walk_at "z"
    exact q
def spQu : Sp := fun vs H Q _ => ∃ z m : Int, vs = [.int z, .int m] ∧ ∀ H' q xs, Same H H' → H' q = some (.tup xs) → DvAll H' xs ((quI z m).map pairD) → Q (.ref q) H'
abbrev n_law_quarters : List Str := ["_law_cell_here", "_law_many", "_law_parts", "_law_found", "_law_k"]
abbrev p_law_quarters : List Str := ["_law_cell_here", "_law_many"]
theorem sc_law_quarters : FnScope n_law_quarters p_law_quarters (defScope s_law_quarters) := ⟨rfl, rfl, rfl, by decide +kernel, rfl, by decide +kernel, by decide +kernel⟩
theorem ok__law_quarters {P : Program} {w : World} {K : PySem.W.Frag} {mg : Str → Option Value} {base : Heap} (T : Tx w K mg) : Fk P w K mg base 2 (He.ga K "_law_quarters") p_law_quarters (spQu) := by
  have G_law_row := ok__law_row (P := P) (w := w) (base := base) T
  have G_law_picked := ok__law_picked (P := P) (w := w) (base := base) T
  refine Fk.mk' T.f_law_quarters sc_law_quarters (fun _ _ _ _ _ _ us hl => match us, hl with | [_, _], _ => rfl) (by
  intro vs H Q E h
  repeat (first | (obtain ⟨h1, _⟩ := h; subst h1; rfl) | (obtain ⟨_, h⟩ := h))) (fun cdv A outer s H vs Q E hr h => ?_)
  have hu := hu_of hr
  have hu64 := hr.units
  refine ⟨_, (pss_cons (ps_set (i := 2) sc_law_quarters.nd rfl (Or.inl rfl) (q_call G_law_row (hr.mono (by omega)) T.g_law_row passX (pa_cons (pv 0) (pa_cons pe_int (pa_cons pe_int pa_nil)))))
  (pss_cons (ps_set (i := 3) sc_law_quarters.nd rfl (Or.inl rfl) (pe_lst pa_nil))
  (pss_cons (ps_for (passes_of rfl) rfl (pi_range1 (by rfl) T.urange (pa_cons pe_int pa_nil)) (pg_name (i := 4) sc_law_quarters.nd rfl (Or.inl rfl)) (pss_one (ps_expr (k_bm K PySem.F.plainAttrs_list PySem.F.slot_list_append PySem.F.type_list_append mt_append (pv 3) (pa_cons (pe_tup (pa_cons (q_call G_law_picked (hr.mono (by omega)) T.g_law_picked passX (pa_cons (k_ix K (pv 2) (pe_op op_mulU pe_int (pv 4)) (fun _ _ => rfl)) (pa_cons (k_ix K (pv 2) (pe_op (k_add K) (pe_op op_mulU pe_int (pv 4)) pe_int) (fun _ _ => rfl)) (pa_cons (pv 1) pa_nil)))) (pa_cons (pe_op op_mod (k_ix K (pv 2) (pe_op (k_add K) (pe_op op_mulU pe_int (pv 4)) pe_int) (fun _ _ => rfl)) pe_int) pa_nil))) pa_nil)))))
  (pss_one (ps_ret (pe_callTy (k_tuple K) (by rfl) T.utuple (by decide +kernel) (pa_cons (pv 3) pa_nil))))))), ?_⟩
  try dsimp only [cxOf]
  obtain ⟨z, m, rfl, q⟩ := h
  walk_at "z"
  refine ⟨z, 12, 10, rfl, by omega, by decide, by decide, fun H1 R s1 nR f1 => ?_⟩
  walk_at "z"
  walk_at "zt"
  rename_i L nL H2 s2 f2
  have f1' := s2 _ _ f1
  have nRL : R ≠ L := ne_of_none f1 nL
  walk_at "z"
  refine ⟨_, rfl, by decide, by decide, ?_⟩
  refine for_range (lo := 0) (n := 4) (fun i σ H' => Same H H' ∧ H' R = some (.lst ((rowI z 12 10).map V.int)) ∧ (∃ xs, H' L = some (.lst xs) ∧ xs.length = i ∧ DvAll H' xs (((quI z m).take i).map pairD)) ∧ ∃ k, σ = [some (.int z), some (.int m), some (.ref R), some (.ref L), k])
    ⟨s1.trans s2, f1', ⟨[], f2, rfl, by rw [List.take_zero]; exact .nil⟩, none, rfl⟩ ?_ ?_
  · rintro i σ H' hi ⟨t1, t2, ⟨xs, t3, t4, t5⟩, k, rfl⟩
    have hi4 : i < 4 := hi
    have e0 : (0 : Int) + (i : Nat) = (i : Nat) := Int.zero_add _
    rw [e0]
    walk_at "z"
    refine z_tyL (SqL.of t3) ?_
    walk_at "z"
    refine z_mulI (mulS (by decide) (by omega)) ?_
    walk_at "z"
    refine z_ixL (SqL.of t2) (atI_row (i := 3 * i) (by omega) (by omega)) ?_
    walk_at "z"
    refine z_mulI (mulS (by decide) (by omega)) ?_
    walk_at "z"
    refine z_ixL (SqL.of t2) (atI_row (i := 3 * i + 1) (by omega) (by omega)) ?_
    walk_at "z"
    refine ⟨_, _, _, rfl, ?_⟩
    walk_at "z"
    refine z_mulI (mulS (by decide) (by omega)) ?_
    walk_at "z"
    refine z_ixL (SqL.of t2) (atI_row (i := 3 * i + 2) (by omega) (by omega)) ?_
    walk_at "z"
    refine z_I (by decide) ?_
    walk_at "z"
    walk_at "zt"
    rename_i T nT H3 s3 f3
    have t3' := s3 _ _ t3
    walk_at "z"
    refine z_app t3' (szlt (by omega)) ?_
    have nLH : H L = none := s1.free nL
    have hq : (quI z m)[i]? = some (pickI ((rowI z 12 10).getD (3 * i) 0) ((rowI z 12 10).getD (3 * i + 1) 0) m, (rowI z 12 10).getD (3 * i + 2) 0 % 8) := by
      rw [quI, List.getElem?_map, List.getElem?_range hi4]; rfl
    refine ⟨(t1.trans s3).set nLH, by rw [upd_ne nRL]; exact s3 _ _ t2, ⟨_, upd_same, by simp [t4], ?_⟩, _, rfl⟩
    rw [List.take_add_one, hq]
    simp only [Option.toList_some, List.map_append, List.map_cons, List.map_nil]
    have hfl : flatAll (((quI z m).take i).map pairD) = true := flat_pairs _
    refine DvAll.snoc ?_ (dvAll_stay (tup_upd t3') hfl (dvAll_same s3 t5))
    exact .tup (tup_upd t3' _ _ f3) (.cons (.int _) (.cons (.int _) .nil))
  · rintro σ H' ⟨t1, t2, ⟨xs, t3, t4, t5⟩, k, rfl⟩
    rw [List.take_of_length_le (by rw [qu_len]; exact Nat.le_refl 4)] at t5
    walk_at "z"
    refine z_tupL (SqL.of t3) ?_
    walk_at "zn"
    rename_i T nT H3 s3 f3
    exact q H3 T xs (t1.trans s3) f3 (dvAll_same s3 t5)
def plainC : Pic → Option Int
  | .p c => some c
  | _ => none
def spDeep : Sp := fun vs H Q _ => ∃ (nl dl fq : Addr) (Ps : List Pic) (nds : List Nd) (xs : List V) (a b c d : Int × Int), vs = [.ref nl, .ref dl, .ref fq] ∧ NodesL H nl Ps nds ∧ H dl = some (.lst (Ps.map fun P => V.int (P.depth : Nat))) ∧ H fq = some (.tup xs) ∧ DvAll H xs ([a, b, c, d].map pairD) ∧
  (∀ x ∈ [a, b, c, d], (0 ≤ x.1 ∧ x.1 < Ps.length) ∧ 0 ≤ x.2 ∧ x.2 < 8) ∧ ∀ H', Same H H' → Q (.int ((Pic.mk (atP Ps a) (atP Ps b) (atP Ps c) (atP Ps d)).depth : Nat)) H'
theorem plain_four {A B C D : Pic} (h : ([A, B, C, D].filterMap plainC).length = 4) : ∃ a b c d, A = .p a ∧ B = .p b ∧ C = .p c ∧ D = .p d ∧ [A, B, C, D].filterMap plainC = [a, b, c, d] := by
  cases A <;> cases B <;> cases C <;> cases D <;> simp [plainC, List.filterMap] at h ⊢
abbrev n_law_deep : List Str := ["_law_nodes_here", "_law_deeps", "_law_four", "_law_shades", "_law_at", "_law_turning"]
abbrev p_law_deep : List Str := ["_law_nodes_here", "_law_deeps", "_law_four"]
theorem sc_law_deep : FnScope n_law_deep p_law_deep (defScope s_law_deep) := ⟨rfl, rfl, rfl, by decide +kernel, rfl, by decide +kernel, by decide +kernel⟩
theorem ok__law_deep {P : Program} {w : World} {K : PySem.W.Frag} {mg : Str → Option Value} {base : Heap} (T : Tx w K mg) : Fk P w K mg base 1 (He.ga K "_law_deep") p_law_deep (spDeep) := by
  refine Fk.mk' T.f_law_deep sc_law_deep (fun _ _ _ _ _ _ us hl => match us, hl with | [_, _, _], _ => rfl) (by
  intro vs H Q E h
  repeat (first | (obtain ⟨h1, _⟩ := h; subst h1; rfl) | (obtain ⟨_, h⟩ := h))) (fun cdv A outer s H vs Q E hr h => ?_)
  have hu := hu_of hr
  have hu64 := hr.units
  refine ⟨_, (pss_cons (ps_set (i := 3) sc_law_deep.nd rfl (Or.inl rfl) (pe_lst pa_nil))
  (pss_cons (ps_for (passes_of rfl) rfl (k_pit K (pv 2)) (k_pgt (n := 2) K rfl (pgs_cons (pg_name (i := 4) sc_law_deep.nd rfl (Or.inl rfl)) (pgs_cons (pg_name (i := 5) sc_law_deep.nd rfl (Or.inl rfl)) pgs_nil))) (pss_one (ps_if (pt_cmpR (k_eq K hu64) (pe_callB (k_len K) (by rfl) T.ulen (by decide +kernel) (pa_cons (k_ix K (pv 0) (pv 4) (fun _ _ => rfl)) pa_nil)) pe_int (nomark _)) (pss_one (ps_expr (k_bm K PySem.F.plainAttrs_list PySem.F.slot_list_append PySem.F.type_list_append mt_append (pv 3) (pa_cons (k_ix K (k_ix K (pv 0) (pv 4) (fun _ _ => rfl)) pe_int (fun _ _ => rfl)) pa_nil)))) pss_nil)))
  (pss_cons (ps_if (PW.pt (pw_and (pt_cmpR (k_eq K hu64) (pe_callB (k_len K) (by rfl) T.ulen (by decide +kernel) (pa_cons (pv 3) pa_nil)) pe_int (nomark _)) (pw_and1 (pt_cmpR (k_eq K hu64) (pe_callB (k_min K rfl) (by rfl) T.umin (by decide +kernel) (pa_cons (pv 3) pa_nil)) (pe_callB (k_max K rfl) (by rfl) T.umax (by decide +kernel) (pa_cons (pv 3) pa_nil)) (nomark _))))) (pss_one (ps_ret pe_int)) pss_nil)
  (pss_one (ps_ret (pe_op (k_add K) pe_int (pe_callB (k_max K rfl) (by rfl) T.umax (by decide +kernel) (pa_cons (pe_lc (own := [("_law_at", 4), ("_law_turning", 5)]) rfl sc_law_deep.nd (k_pit K (pv 2)) (blkOk_by (own := [("_law_at", 4), ("_law_turning", 5)]) (N := n_law_deep) (sc := defScope s_law_deep) (by decide +kernel)) (fun _ _ _ _ _ => (k_pgt (n := 2) K rfl (pgs_cons (pg_name (i := 4) sc_law_deep.nd rfl (Or.inl rfl)) (pgs_cons (pg_name (i := 5) sc_law_deep.nd rfl (Or.inl rfl)) pgs_nil)))) (fun _ _ _ _ _ => pts_nil) (fun _ _ _ _ _ => (k_ix K (pv 1) (pv 4) (fun _ _ => rfl)))) pa_nil)))))))), ?_⟩
  try dsimp only [cxOf]
  obtain ⟨nl, dl, fq, Ps, nds, xs, a, b, c, d, rfl, hN, hD, hf, hall, hr, q⟩ := h
  have hxl : xs.length = 4 := by rw [hall.len]; rfl
  have go : ∀ (H2 : Hp), Same H H2 → ∀ (k : Nat) (v : V), xs[k]? = some v → ∃ (z : Int × Int) (w : Addr) (r : Pic), ([a, b, c, d] : List (Int × Int))[k]? = some z ∧ v = .ref w ∧ H2 w = some (.tup [.int z.1, .int z.2]) ∧ Ps[z.1.toNat]? = some r ∧ atP Ps z = r.turn z.2 ∧ (0 ≤ z.1 ∧ z.1 < Ps.length) ∧ 0 ≤ z.2 ∧ z.2 < 8 := by
    intro H2 s2 k v e
    obtain ⟨dd, e1, e2⟩ := hall.get e
    rw [List.getElem?_map] at e1
    cases e3 : ([a, b, c, d] : List (Int × Int))[k]? with
    | none => rw [e3] at e1; cases e1
    | some z =>
      rw [e3] at e1
      obtain rfl := Option.some.inj e1
      obtain ⟨w, rfl, hw⟩ := pair_of e2
      have hz := hr z (List.mem_of_getElem? e3)
      obtain ⟨r, hr1, hr2⟩ := atP_get hz.1
      exact ⟨z, w, r, rfl, rfl, s2 _ _ hw, hr1, hr2, hz.1, hz.2⟩
  walk_at "z"
  walk_at "zt"
  rename_i L nL H1 s1 f1
  walk_at "z"
  refine ⟨fq, rfl, ⟨_, SqT.of (s1 _ _ hf)⟩, for_tup (K := K) (a := fq) (xs := xs) (fun i σ H' => Same H H' ∧ H' L = some (.lst ((([a, b, c, d].take i).filterMap fun x => plainC (atP Ps x)).map V.int)) ∧ ∃ u v, σ = [some (.ref nl), some (.ref dl), some (.ref fq), some (.ref L), u, v])
    ⟨s1, f1, none, none, rfl⟩ (fun i σ H' _ h => SqT.of (h.1 _ _ hf)) ?_ ?_⟩
  · rintro i v σ H' hi ⟨s2, f2, u1, u2, rfl⟩
    obtain ⟨z, w, r, e1, rfl, hw, hr1, hr2, hz⟩ := go H' s2 i v hi
    have hi4 : i < 4 := by have := (List.getElem?_eq_some_iff.mp hi).1; omega
    refine z_gTup (SqT.of hw) rfl ?_
    walk_at "z"
    obtain ⟨ws, nq, ys, n, h1, h2, h3, h4, h5, h6, h7⟩ := (hN.same s2).get hr1
    have hat : atI ws z.1 = some (.ref nq) := atI_of h3 (by omega)
    refine z_ixL (SqL.of h1) hat ?_
    walk_at "z"
    refine z_lenT (SqT.of h4) ?_
    walk_at "z"
    rcases h7 with ⟨cc, rfl, rfl, rfl⟩ | ⟨pa, pb, pc, pd, rfl, rfl, hr4, hl4, hall4⟩
    · refine z_yes (by rfl) ?_
      walk_at "z"
      refine z_tyL (SqL.of f2) ?_
      walk_at "z"
      refine z_ixL (SqL.of h1) hat ?_
      walk_at "z"
      refine z_ixT (SqT.of h4) (by rfl) ?_
      walk_at "z"
      have hlen : (([a, b, c, d].take i).filterMap fun x => plainC (atP Ps x)).length ≤ 4 := Nat.le_trans (List.length_filterMap_le _ _) (by simp; omega)
      refine z_app f2 (by rw [List.length_map]; exact szlt (by omega)) ?_
      refine ⟨s2.set nL, ?_, _, _, rfl⟩
      rw [upd_same, List.take_add_one, e1]
      simp [List.filterMap_append, hr2, Pic.turn, plainC]
    · refine z_no (by rw [hl4]; decide) ?_
      walk_at "z"
      refine ⟨s2, ?_, _, _, rfl⟩
      rw [f2, List.take_add_one, e1]
      simp [List.filterMap_append, hr2, Pic.turn, plainC]
  · rintro σ H' ⟨s2, f2, u1, u2, rfl⟩
    rw [hxl] at f2
    have e4 : (([a, b, c, d].take 4).filterMap fun x => plainC (atP Ps x)) = [atP Ps a, atP Ps b, atP Ps c, atP Ps d].filterMap plainC := by simp [List.filterMap_cons]
    rw [e4] at f2
    have rest : ¬ (atP Ps a = atP Ps b ∧ atP Ps b = atP Ps c ∧ atP Ps c = atP Ps d ∧ (atP Ps a).depth = 0) → ∀ R : TS, True := fun _ _ => trivial
    have qd : ∀ H2, Same H' H2 → Q (.int ((Pic.mk (atP Ps a) (atP Ps b) (atP Ps c) (atP Ps d)).depth : Nat)) H2 := fun H2 s3 => q H2 (s2.trans s3)
    walk_at "z"
    refine z_lenL (SqL.of f2) ?_
    walk_at "z"
    rw [List.length_map]
    refine z_ite (fun c1 => ?_) (fun c1 => ?_)
    · walk_at "z"
      have h4 : ([atP Ps a, atP Ps b, atP Ps c, atP Ps d].filterMap plainC).length = 4 := by omega
      refine z_min (SqL.of f2) (by omega) fun m1 hm1 hl1 => ?_
      walk_at "z"
      refine z_max (SqL.of f2) (by omega) fun m2 hm2 hl2 => ?_
      walk_at "z"
      rcases Decidable.em (m1 = m2) with c2 | c2
      · refine z_yes c2 ?_
        walk_at "z"
        obtain ⟨ca, cb, cc, cd, ea, eb, ec, ed, el⟩ := plain_four h4
        rw [el] at hm1 hl1 hm2 hl2
        have h1 := hl1 ca (by simp)
        have h2 := hl1 cb (by simp)
        have h3 := hl1 cc (by simp)
        have h4 := hl1 cd (by simp)
        have g1 := hl2 ca (by simp)
        have g2 := hl2 cb (by simp)
        have g3 := hl2 cc (by simp)
        have g4 := hl2 cd (by simp)
        have e1 : ca = cb := by omega
        have e2 : cb = cc := by omega
        have e3 : cc = cd := by omega
        subst e1 e2 e3
        have e9 : (Pic.mk (atP Ps a) (atP Ps b) (atP Ps c) (atP Ps d)).depth = 0 := by rw [ea, eb, ec, ed]; simp [Pic.mk, Pic.depth]
        have := qd H' (Same.refl _)
        rw [e9] at this
        exact this
      · refine z_no c2 ?_
        have hne : ¬ (atP Ps a = atP Ps b ∧ atP Ps b = atP Ps c ∧ atP Ps c = atP Ps d ∧ (atP Ps a).depth = 0) := by
          rintro ⟨e1, e2, e3, e4⟩
          obtain ⟨cc, ec⟩ := depth_zero e4
          rw [← e3, ← e2, ← e1, ec] at hm1 hm2
          simp [plainC] at hm1 hm2
          omega
        have hmk : (Pic.mk (atP Ps a) (atP Ps b) (atP Ps c) (atP Ps d)) = .q (atP Ps a) (atP Ps b) (atP Ps c) (atP Ps d) := if_neg hne
        rw [hmk] at qd
        walk_at "z"
        refine ⟨fq, rfl, ⟨_, SqT.of (s2 _ _ hf)⟩, fun M hM => ?_⟩
        refine lc_tup (K := K) (a := fq) (xs := xs) (fun i H2 => Same H' H2 ∧ H2 M = some (.lst (([a, b, c, d].take i).map fun x => V.int ((atP Ps x).depth : Nat)))) ⟨Same.new hM, upd_same⟩ (fun i H2 _ h => SqT.of (h.1 _ _ (s2 _ _ hf))) ?_ ?_
        · rintro i v H2 hi ⟨s3, f3⟩
          obtain ⟨z, w, r, e1, rfl, hw, hr1, hr2, hz⟩ := go H2 (s2.trans s3) i v hi
          have hi4 : i < 4 := by have := (List.getElem?_eq_some_iff.mp hi).1; omega
          walk_at "zw"
          refine z_gTup (SqT.of hw) rfl ?_
          walk_at "z"
          refine ⟨rfl, ?_⟩
          walk_at "z"
          refine z_ixL (SqL.of (s3 _ _ (s2 _ _ hD))) (atI_of (n := z.1.toNat) (v := .int (r.depth : Nat)) (by rw [List.getElem?_map, hr1]; rfl) (by omega)) ?_
          refine ⟨_, f3, szlt (by simp; omega), s3.set hM, ?_⟩
          rw [upd_same, List.take_add_one, e1]
          simp [hr2, turn_depth hz.2.1 hz.2.2]
        · rintro H2 ⟨s3, f3⟩
          rw [hxl] at f3
          have f4 : H2 M = some (.lst ([((atP Ps a).depth : Int), ((atP Ps b).depth : Int), ((atP Ps c).depth : Int), ((atP Ps d).depth : Int)].map V.int)) := f3
          walk_at "z"
          refine z_max (SqL.of f4) (by simp) fun m hm hl => ?_
          walk_at "z"
          have g1 := hl _ (List.mem_cons_self ..)
          have g2 := hl ((atP Ps b).depth : Int) (by simp)
          have g3 := hl ((atP Ps c).depth : Int) (by simp)
          have g4 := hl ((atP Ps d).depth : Int) (by simp)
          have e9 : (1 : Int) + m = ((Pic.q (atP Ps a) (atP Ps b) (atP Ps c) (atP Ps d)).depth : Nat) := by
            simp only [Pic.depth]
            simp only [List.mem_cons, List.not_mem_nil, or_false] at hm
            omega
          rw [e9]
          exact qd H2 s3
    · walk_at "z"
      have hne : ¬ (atP Ps a = atP Ps b ∧ atP Ps b = atP Ps c ∧ atP Ps c = atP Ps d ∧ (atP Ps a).depth = 0) := by
        rintro ⟨e1, e2, e3, e4⟩
        obtain ⟨cc, ec⟩ := depth_zero e4
        rw [← e3, ← e2, ← e1, ec] at c1
        simp [plainC] at c1
      have hmk : (Pic.mk (atP Ps a) (atP Ps b) (atP Ps c) (atP Ps d)) = .q (atP Ps a) (atP Ps b) (atP Ps c) (atP Ps d) := if_neg hne
      rw [hmk] at qd
      walk_at "z"
      refine ⟨fq, rfl, ⟨_, SqT.of (s2 _ _ hf)⟩, fun M hM => ?_⟩
      refine lc_tup (K := K) (a := fq) (xs := xs) (fun i H2 => Same H' H2 ∧ H2 M = some (.lst (([a, b, c, d].take i).map fun x => V.int ((atP Ps x).depth : Nat)))) ⟨Same.new hM, upd_same⟩ (fun i H2 _ h => SqT.of (h.1 _ _ (s2 _ _ hf))) ?_ ?_
      · rintro i v H2 hi ⟨s3, f3⟩
        obtain ⟨z, w, r, e1, rfl, hw, hr1, hr2, hz⟩ := go H2 (s2.trans s3) i v hi
        have hi4 : i < 4 := by have := (List.getElem?_eq_some_iff.mp hi).1; omega
        walk_at "zw"
        refine z_gTup (SqT.of hw) rfl ?_
        walk_at "z"
        refine ⟨rfl, ?_⟩
        walk_at "z"
        refine z_ixL (SqL.of (s3 _ _ (s2 _ _ hD))) (atI_of (n := z.1.toNat) (v := .int (r.depth : Nat)) (by rw [List.getElem?_map, hr1]; rfl) (by omega)) ?_
        refine ⟨_, f3, szlt (by simp; omega), s3.set hM, ?_⟩
        rw [upd_same, List.take_add_one, e1]
        simp [hr2, turn_depth hz.2.1 hz.2.2]
      · rintro H2 ⟨s3, f3⟩
        rw [hxl] at f3
        have f4 : H2 M = some (.lst ([((atP Ps a).depth : Int), ((atP Ps b).depth : Int), ((atP Ps c).depth : Int), ((atP Ps d).depth : Int)].map V.int)) := f3
        walk_at "z"
        refine z_max (SqL.of f4) (by simp) fun m hm hl => ?_
        walk_at "z"
        have g1 := hl _ (List.mem_cons_self ..)
        have g2 := hl ((atP Ps b).depth : Int) (by simp)
        have g3 := hl ((atP Ps c).depth : Int) (by simp)
        have g4 := hl ((atP Ps d).depth : Int) (by simp)
        have e9 : (1 : Int) + m = ((Pic.q (atP Ps a) (atP Ps b) (atP Ps c) (atP Ps d)).depth : Nat) := by
          simp only [Pic.depth]
          simp only [List.mem_cons, List.not_mem_nil, or_false] at hm
          omega
        rw [e9]
        exact qd H2 s3
def spNeed (C N : Addr) : Sp := fun vs H Q E => ∃ p A D ps, ∃ f : Int, vs = [.ref p, .int f] ∧ FacesAt C H p A D ps ∧ ((0 ≤ f ∧ f < ps.length) → Q .non H) ∧ (¬ (0 ≤ f ∧ f < ps.length) → E (.ref N) none H)
abbrev nFaces_need : List Str := ["self", "face"]
abbrev pFaces_need : List Str := ["self", "face"]
theorem scFaces_need : FnScope nFaces_need pFaces_need (defScope sFaces_need) := ⟨rfl, rfl, rfl, by decide +kernel, rfl, by decide +kernel, by decide +kernel⟩
theorem ok_Faces_need {P : Program} {w : World} {K : PySem.W.Frag} {mg : Str → Option Value} {base : Heap} (T : Tx w K mg) : Fk P w K mg base 1 (He.ma K (He.ga K "Faces") "need") pFaces_need (spNeed (He.ga K "Faces") (He.ga K "NoFace")) := by
  refine Fk.mk' T.fFaces_need scFaces_need (fun _ _ _ _ _ _ us hl => match us, hl with | [_, _], _ => rfl) (by
  intro vs H Q E h
  repeat (first | (obtain ⟨h1, _⟩ := h; subst h1; rfl) | (obtain ⟨_, h⟩ := h))) (fun cdv A outer s H vs Q E hr h => ?_)
  have hu := hu_of hr
  have hu64 := hr.units
  refine ⟨_, (pss_one (ps_if (PW.pt (pw_or (pt_cmpR op_lt (pv 1) pe_int (nomark _)) (pw_or1 (pt_cmpR op_ge (pv 1) (pe_callB (k_len K) (by rfl) T.ulen (by decide +kernel) (pa_cons (k_fld K (pv 0) rfl) pa_nil)) (nomark _))))) (pss_one (ps_raise rfl takesX (pmk_own PySem.F.excBase_ValueError T.eNoFace.1 T.gNoFace T.eNoFace.2.1 (raises_own T.eNoFace.2.2.1 T.eNoFace.2.2.2) (by rfl)))) pss_nil)), ?_⟩
  try dsimp only [cxOf]
  obtain ⟨p, A, D, ps, f, rfl, hF, q, e⟩ := h
  obtain ⟨dx, ob⟩ := hF.ob
  obtain ⟨ns, hn, hl⟩ := hF.len
  walk_at "z"
  refine z_ite (fun c => ?_) (fun c => ?_)
  · walk_at "z"
    exact e (by omega)
  · walk_at "z"
    refine z_fldR ob T.cFaces T.aFaces_nodes lkFaces_nodes ?_
    walk_at "z"
    refine z_lenL (SqL.of hn) ?_
    walk_at "z"
    rw [List.length_map, hl]
    refine z_ite (fun c2 => ?_) (fun c2 => ?_)
    · walk_at "z"
      exact e (by omega)
    · walk_at "z"
      exact q (by omega)
def spArea : Sp := fun vs H Q _ => ∃ d : Nat, vs = [.int (d : Nat)] ∧ d ≤ 1000 ∧ Q (.int (4 ^ d)) H
abbrev narea : List Str := ["depth"]
abbrev parea : List Str := ["depth"]
theorem scarea : FnScope narea parea (defScope sarea) := ⟨rfl, rfl, rfl, by decide +kernel, rfl, by decide +kernel, by decide +kernel⟩
theorem ok_area {P : Program} {w : World} {K : PySem.W.Frag} {mg : Str → Option Value} {base : Heap} (T : Tx w K mg) : Fk P w K mg base 1 (He.ga K "area") parea (spArea) := by
  refine Fk.mk' T.farea scarea (fun _ _ _ _ _ _ us hl => match us, hl with | [_], _ => rfl) (by
  intro vs H Q E h
  repeat (first | (obtain ⟨h1, _⟩ := h; subst h1; rfl) | (obtain ⟨_, h⟩ := h))) (fun cdv A outer s H vs Q E hr h => ?_)
  have hu := hu_of hr
  have hu64 := hr.units
  refine ⟨_, (pss_one (ps_ret (pe_op op_shl pe_int (pe_op op_mulU pe_int (pv 0))))), ?_⟩
  try dsimp only [cxOf]
  obtain ⟨d, rfl, hd, q⟩ := h
  walk_at "z"
  refine z_mulI (mulS (by decide) (by omega)) ?_
  walk_at "z"
  refine z_I ⟨by omega, by omega, by decide⟩ ?_
  walk_at "z"
  have e : (1 : Int) * 2 ^ (2 * (d : Int)).toNat = 4 ^ d := by
    have e1 : (2 * (d : Int)).toNat = 2 * d := by omega
    rw [e1, Int.one_mul, Int.pow_mul]
    rfl
  rw [e]
  exact q
def fourMax (A B C D : Pic) : Nat := max (max A.depth B.depth) (max C.depth D.depth)
def spFour (C N TD : Addr) : Sp := fun vs H Q E => ∃ p A D ps, ∃ a b c d : Int, vs = [.ref p, .int a, .int b, .int c, .int d] ∧ FacesAt C H p A D ps ∧ ps.length < 100000 ∧
  (¬ ((0 ≤ a ∧ a < ps.length) ∧ (0 ≤ b ∧ b < ps.length) ∧ (0 ≤ c ∧ c < ps.length) ∧ (0 ≤ d ∧ d < ps.length)) → ∀ H', Same H H' → E (.ref N) none H') ∧
  (∀ PA PB PC PD, IsF ps a PA → IsF ps b PB → IsF ps c PC → IsF ps d PD →
    (12 < (Pic.mk PA PB PC PD).depth → ∀ H', Same H H' → E (.ref TD) none H') ∧
    ((Pic.mk PA PB PC PD).depth ≤ 12 → After C H p A D (addP ps (Pic.mk PA PB PC PD)) fun H' => Q (.int (ix (addP ps (Pic.mk PA PB PC PD)) (Pic.mk PA PB PC PD) : Nat)) H'))
abbrev nFaces_four : List Str := ["self", "a", "b", "c", "d", "face", "deep", "sums", "colour"]
abbrev pFaces_four : List Str := ["self", "a", "b", "c", "d"]
theorem scFaces_four : FnScope nFaces_four pFaces_four (defScope sFaces_four) := ⟨rfl, rfl, rfl, by decide +kernel, rfl, by decide +kernel, by decide +kernel⟩
theorem ok_Faces_four {P : Program} {w : World} {K : PySem.W.Frag} {mg : Str → Option Value} {base : Heap} (T : Tx w K mg) : Fk P w K mg base 2 (He.ma K (He.ga K "Faces") "four") pFaces_four (spFour (He.ga K "Faces") (He.ga K "NoFace") (He.ga K "TooDeep")) := by
  have GFaces_stored := ok_Faces_stored (P := P) (w := w) (base := base) T
  have GFaces_need := ok_Faces_need (P := P) (w := w) (base := base) T
  have Garea := ok_area (P := P) (w := w) (base := base) T
  refine Fk.mk' T.fFaces_four scFaces_four (fun _ _ _ _ _ _ us hl => match us, hl with | [_, _, _, _, _], _ => rfl) (by
  intro vs H Q E h
  repeat (first | (obtain ⟨h1, _⟩ := h; subst h1; rfl) | (obtain ⟨_, h⟩ := h))) (fun cdv A outer s H vs Q E hr h => ?_)
  have hu := hu_of hr
  have hu64 := hr.units
  refine ⟨_, (pss_cons (ps_for (passes_of rfl) rfl (k_pit K (pe_tup (pa_cons (pv 1) (pa_cons (pv 2) (pa_cons (pv 3) (pa_cons (pv 4) pa_nil)))))) (pg_name (i := 5) scFaces_four.nd rfl (Or.inl rfl)) (pss_one (ps_expr (q_meth (pv 0) T.cFaces T.mFaces_need GFaces_need (hr.mono (by omega)) passX (pa_cons (pv 5) pa_nil)))))
  (pss_cons (ps_if (PW.pt (pw_and (pt_cmpR (k_eq K hu64) (pv 1) (pv 2) (nomark _)) (pw_and (pt_cmpR (k_eq K hu64) (pv 2) (pv 3) (nomark _)) (pw_and (pt_cmpR (k_eq K hu64) (pv 3) (pv 4) (nomark _)) (pw_and1 (pt_cmpR (k_eq K hu64) (k_ix K (k_fld K (pv 0) rfl) (pv 1) (fun _ _ => rfl)) pe_int (nomark _))))))) (pss_one (ps_ret (pv 1))) pss_nil)
  (pss_cons (ps_set (i := 6) scFaces_four.nd rfl (Or.inl rfl) (pe_callB (k_max K rfl) (by rfl) T.umax (by decide +kernel) (pa_cons (pe_lc (own := [("face", 5)]) (g := gName 5) rfl scFaces_four.nd (k_pit K (pe_tup (pa_cons (pv 1) (pa_cons (pv 2) (pa_cons (pv 3) (pa_cons (pv 4) pa_nil)))))) (blkOk_by (own := [("face", 5)]) (N := nFaces_four) (sc := defScope sFaces_four) (by decide +kernel)) (fun _ _ _ _ _ => pg_name (i := 5) scFaces_four.nd rfl (Or.inl rfl)) (fun _ _ _ _ _ => pts_nil) (fun _ _ _ _ _ => (k_ix K (k_fld K (pv 0) rfl) (pv 5) (fun _ _ => rfl)))) pa_nil)))
  (pss_cons (ps_if (pt_cmpR op_ge (pv 6) (q_int T.iDEEPEST) (nomark _)) (pss_one (ps_raise rfl takesX (pmk_own PySem.F.excBase_ValueError T.eTooDeep.1 T.gTooDeep T.eTooDeep.2.1 (raises_own T.eTooDeep.2.2.1 T.eTooDeep.2.2.2) (by rfl)))) pss_nil)
  (pss_cons (ps_set (i := 7) scFaces_four.nd rfl (Or.inl rfl) (pe_op op_mulU (pe_lst (pa_cons pe_int pa_nil)) (q_int T.iCOLOURS)))
  (pss_cons (ps_for (passes_of rfl) rfl (k_pit K (pe_tup (pa_cons (pv 1) (pa_cons (pv 2) (pa_cons (pv 3) (pa_cons (pv 4) pa_nil)))))) (pg_name (i := 5) scFaces_four.nd rfl (Or.inl rfl)) (pss_one (ps_for (passes_of rfl) rfl (pi_range1 (by rfl) T.urange (pa_cons (q_int T.iCOLOURS) pa_nil)) (pg_name (i := 8) scFaces_four.nd rfl (Or.inl rfl)) (pss_one (ps_augS (pv 7) (pv 8) (k_get K) (pe_op op_mulU (k_ix K (k_ix K (k_fld K (pv 0) rfl) (pv 5) (fun _ _ => rfl)) (pv 8) (fun _ _ => rfl)) (q_call Garea (hr.mono (by omega)) T.garea passX (pa_cons (pe_op op_sub (pv 6) (k_ix K (k_fld K (pv 0) rfl) (pv 5) (fun _ _ => rfl))) pa_nil))) ip_add set_list)))))
  (pss_one (ps_ret (q_meth (pv 0) T.cFaces T.mFaces_stored GFaces_stored (hr.mono (by omega)) passX (pa_cons (pe_tup (pa_cons (pv 1) (pa_cons (pv 2) (pa_cons (pv 3) (pa_cons (pv 4) pa_nil))))) (pa_cons (pe_op (k_add K) (pv 6) pe_int) (pa_cons (pv 7) pa_nil)))))))))))), ?_⟩
  try dsimp only [cxOf]
  obtain ⟨p, A, D, ps, a, b, c, d, rfl, hF, hl, e, q⟩ := h
  obtain ⟨dx, ob⟩ := hF.ob
  walk_at "z"
  walk_at "zt"
  rename_i tp hp1 H1 s1 f1
  have hF1 := hF.same s1
  walk_at "z"
  refine ⟨tp, rfl, ⟨_, SqT.of f1⟩, for_tup (K := K) (a := tp) (xs := [V.int a, V.int b, V.int c, V.int d]) (fun i σ H' => H' = H1 ∧ (∀ j z, j < i → ([a, b, c, d] : List Int)[j]? = some z → 0 ≤ z ∧ z < ps.length) ∧ ∃ v, σ = [some (.ref p), some (.int a), some (.int b), some (.int c), some (.int d), v, none, none, none])
    ⟨rfl, fun j z h => absurd h (Nat.not_lt_zero _), none, rfl⟩ (fun i σ H' _ h => by rw [h.1]; exact SqT.of f1) ?_ ?_⟩
  · rintro i x σ H' hi ⟨rfl, hv, v, rfl⟩
    have hi4 : i < 4 := by have := (List.getElem?_eq_some_iff.mp hi).1; simpa using this
    obtain ⟨z, hz, rfl⟩ : ∃ z : Int, ([a, b, c, d] : List Int)[i]? = some z ∧ x = .int z := by
      have hm : ([V.int a, V.int b, V.int c, V.int d] : List V) = ([a, b, c, d] : List Int).map V.int := rfl
      rw [hm, List.getElem?_map] at hi
      cases r : ([a, b, c, d] : List Int)[i]? with
      | none => rw [r] at hi; cases hi
      | some z => rw [r] at hi; exact ⟨z, rfl, (Option.some.inj hi).symm⟩
    walk_at "z"
    refine z_methR (s1 _ _ ob) noFaces_need ?_
    walk_at "z"
    refine ⟨p, A, D, ps, z, rfl, hF1, fun hz2 => ?_, fun hz2 => ?_⟩
    · refine ⟨rfl, fun j y hj ey => ?_, _, rfl⟩
      by_cases hji : j = i
      · subst hji
        rw [hz] at ey
        cases ey
        exact hz2
      · exact hv j y (by omega) ey
    · refine e (fun hall => hz2 ?_) _ s1
      have : i = 0 ∨ i = 1 ∨ i = 2 ∨ i = 3 := by omega
      rcases this with rfl | rfl | rfl | rfl <;> simp at hz <;> subst hz <;> simp [hall]
  · rintro σ H' ⟨rfl, hv, v, rfl⟩
    obtain ⟨PA, hA⟩ := IsF.ex (hv 0 a (by simp) rfl).1 (hv 0 a (by simp) rfl).2
    obtain ⟨PB, hB⟩ := IsF.ex (hv 1 b (by simp) rfl).1 (hv 1 b (by simp) rfl).2
    obtain ⟨PC, hC⟩ := IsF.ex (hv 2 c (by simp) rfl).1 (hv 2 c (by simp) rfl).2
    obtain ⟨PD, hD⟩ := IsF.ex (hv 3 d (by simp) rfl).1 (hv 3 d (by simp) rfl).2
    obtain ⟨qd, qk⟩ := q PA PB PC PD hA hB hC hD
    have ea := hA.eq hF.inv.nd
    have eb := hB.eq hF.inv.nd
    have ec := hC.eq hF.inv.nd
    have ed := hD.eq hF.inv.nd
    have same : (a = b ∧ b = c ∧ c = d ∧ (PA.depth : Int) = 0) ↔ (PA = PB ∧ PB = PC ∧ PC = PD ∧ PA.depth = 0) := by
      constructor
      · rintro ⟨rfl, rfl, rfl, h0⟩
        exact ⟨hA.inj hB, hB.inj hC, hC.inj hD, by omega⟩
      · rintro ⟨rfl, rfl, rfl, h0⟩
        exact ⟨by rw [ea, eb], by rw [eb, ec], by rw [ec, ed], by omega⟩
    walk_at "z1"
    walk_at "z1"
    refine z_ans (decide (a = b ∧ b = c ∧ c = d ∧ (PA.depth : Int) = 0)) (fun R hR => ?_) ?_
    · walk_at "z"
      refine z_ite (fun c1 => ?_) (fun c1 => ?_)
      · walk_at "z"
        refine z_ite (fun c2 => ?_) (fun c2 => ?_)
        · walk_at "z"
          refine z_ite (fun c3 => ?_) (fun c3 => ?_)
          · walk_at "z"
            refine z_fldR (s1 _ _ ob) T.cFaces T.aFaces_depths lkFaces_depths ?_
            walk_at "z"
            refine z_ixL (SqL.of hF1.depths) (FacesAt.depthAt hA) ?_
            walk_at "z"
            have : decide (a = b ∧ b = c ∧ c = d ∧ (PA.depth : Int) = 0) = decide ((PA.depth : Int) = 0) := by simp [c1, c2, c3]
            rw [this] at hR
            exact hR
          · have : decide (a = b ∧ b = c ∧ c = d ∧ (PA.depth : Int) = 0) = false := by simp [c3]
            rw [this] at hR
            exact hR
        · have : decide (a = b ∧ b = c ∧ c = d ∧ (PA.depth : Int) = 0) = false := by simp [c2]
          rw [this] at hR
          exact hR
      · have : decide (a = b ∧ b = c ∧ c = d ∧ (PA.depth : Int) = 0) = false := by simp [c1]
        rw [this] at hR
        exact hR
    refine z_ite (fun c1 => ?_) (fun c1 => ?_)
    · walk_at "z"
      have em : Pic.mk PA PB PC PD = PA := by unfold Pic.mk; rw [if_pos (same.mp c1)]
      have hmem := hA.mem
      have eadd : addP ps PA = ps := if_pos hmem
      rw [em, eadd] at qk
      rw [ea]
      exact qk (by have := same.mp c1; omega) _ D s1.keep hF1 (fun _ h => h) fun b h => .inl h
    have em : Pic.mk PA PB PC PD = .q PA PB PC PD := by unfold Pic.mk; rw [if_neg (fun z => c1 (same.mpr z))]
    rw [em] at qd qk
    walk_at "z"
    walk_at "zt"
    rename_i tp2 hp2 H2 s2 f2
    have hF2 := hF1.same s2
    walk_at "z"
    refine ⟨tp2, rfl, ⟨_, SqT.of f2⟩, fun L hL => ?_⟩
    refine lc_tup (K := K) (a := tp2) (xs := [V.int a, V.int b, V.int c, V.int d]) (fun i H' => H' = upd H2 L (.lst ((([PA.depth, PB.depth, PC.depth, PD.depth] : List Nat).take i).map fun n => V.int (n : Nat)))) rfl (fun i H' _ h => by rw [h]; exact (Same.new hL).tup (SqT.of f2)) ?_ ?_
    · rintro i x H' hi rfl
      have hi4 : i < 4 := by have := (List.getElem?_eq_some_iff.mp hi).1; simpa using this
      obtain ⟨z, P, hz, hP, hn, rfl⟩ : ∃ (z : Int) (P : Pic), IsF ps z P ∧ ([PA.depth, PB.depth, PC.depth, PD.depth] : List Nat)[i]? = some P.depth ∧ True ∧ x = .int z := by
        have : i = 0 ∨ i = 1 ∨ i = 2 ∨ i = 3 := by omega
        rcases this with rfl | rfl | rfl | rfl <;> simp at hi <;> subst hi
        · exact ⟨a, PA, hA, rfl, trivial, rfl⟩
        · exact ⟨b, PB, hB, rfl, trivial, rfl⟩
        · exact ⟨c, PC, hC, rfl, trivial, rfl⟩
        · exact ⟨d, PD, hD, rfl, trivial, rfl⟩
      walk_at "zw"
      walk_at "z"
      refine ⟨rfl, ?_⟩
      walk_at "z"
      have hF3 := hF2.same (Same.new (o := .lst ((([PA.depth, PB.depth, PC.depth, PD.depth] : List Nat).take i).map fun n => V.int (n : Nat))) hL)
      obtain ⟨dx3, ob3⟩ := hF3.ob
      refine z_fldR ob3 T.cFaces T.aFaces_depths lkFaces_depths ?_
      walk_at "z"
      refine z_ixL (SqL.of hF3.depths) (FacesAt.depthAt hz) ?_
      refine ⟨_, upd_same, szlt (by simp; omega), ?_⟩
      rw [upd_upd]
      have et : (([PA.depth, PB.depth, PC.depth, PD.depth] : List Nat).take (i + 1)) = (([PA.depth, PB.depth, PC.depth, PD.depth] : List Nat).take i) ++ [P.depth] := by
        rw [List.take_add_one, hP]
        rfl
      rw [et, List.map_append]
      rfl
    rintro H' rfl
    have s3 : Same H2 (upd H2 L (.lst ((([PA.depth, PB.depth, PC.depth, PD.depth] : List Nat).take [V.int a, V.int b, V.int c, V.int d].length).map fun n => V.int (n : Nat)))) := Same.new hL
    have f3 : (upd H2 L (.lst ((([PA.depth, PB.depth, PC.depth, PD.depth] : List Nat).take [V.int a, V.int b, V.int c, V.int d].length).map fun n => V.int (n : Nat)))) L = some (.lst (([(PA.depth : Int), (PB.depth : Int), (PC.depth : Int), (PD.depth : Int)] : List Int).map V.int)) := upd_same
    generalize upd H2 L _ = H3 at s3 f3 ⊢
    walk_at "z"
    refine z_max (ns := [(PA.depth : Int), (PB.depth : Int), (PC.depth : Int), (PD.depth : Int)]) (SqL.of f3) (by simp) (fun m hm hle => ?_)
    have em2 : m = (fourMax PA PB PC PD : Nat) := by
      unfold fourMax
      have h1 := hle PA.depth (by simp)
      have h2 := hle PB.depth (by simp)
      have h3 := hle PC.depth (by simp)
      have h4 := hle PD.depth (by simp)
      simp at hm
      omega
    subst em2
    have edep : (Pic.q PA PB PC PD).depth = fourMax PA PB PC PD + 1 := by simp [Pic.depth, fourMax]; omega
    walk_at "z"
    refine z_ite (fun c2 => ?_) (fun c2 => ?_)
    · walk_at "z"
      exact qd (by omega) _ (s1.trans (s2.trans s3))
    have hm12 : fourMax PA PB PC PD < 12 := by omega
    generalize hm0 : fourMax PA PB PC PD = m at *
    walk_at "z"
    refine ⟨sz1000 (by simp), fun l0 hl0 => ?_⟩
    walk_at "z"
    refine z_mulL upd_same (by decide) (by decide) (sz1000 (by simp)) (fun S hS => ?_)
    have ez : (List.replicate (Int.toNat 10) [V.int 0]).flatten = (List.range 10).map fun k => V.int (part4 m [] k + if k < 0 then term4 m PA k else 0) := by simp [part4, List.range_succ, List.replicate]
    rw [ez]
    have hS3 : H3 S = none := by
      by_cases hh : S = l0
      · subst hh; exact hl0
      · rw [upd_ne hh] at hS; exact hS
    have s4 : Same H3 (upd (upd H3 l0 (.lst [V.int 0])) S (.lst ((List.range 10).map fun k => V.int (part4 m [] k + if k < 0 then term4 m PA k else 0)))) := (Same.new hl0).set hS3
    have f4 : (upd (upd H3 l0 (.lst [V.int 0])) S (.lst ((List.range 10).map fun k => V.int (part4 m [] k + if k < 0 then term4 m PA k else 0)))) S = some (.lst ((List.range 10).map fun k => V.int (part4 m [] k + if k < 0 then term4 m PA k else 0))) := upd_same
    generalize upd (upd H3 l0 _) S _ = H4 at s4 f4 ⊢
    have sH3 : Same H H3 := s1.trans (s2.trans s3)
    have hS0 : H S = none := sH3.free hS3
    walk_at "z"
    walk_at "zt"
    rename_i tp3 hp3 H5 s5 f5
    have fS5 := s5 _ _ f4
    walk_at "z"
    refine ⟨tp3, rfl, ⟨_, SqT.of f5⟩, for_tup (K := K) (a := tp3) (xs := [V.int a, V.int b, V.int c, V.int d]) (fun i σ H' => Same H H' ∧ H' tp3 = some (.tup [V.int a, V.int b, V.int c, V.int d]) ∧ H' S = some (.lst ((List.range 10).map fun k => V.int (part4 m (([PA, PB, PC, PD] : List Pic).take i) k)))
      ∧ ∃ v w, σ = [some (.ref p), some (.int a), some (.int b), some (.int c), some (.int d), v, some (.int (m : Nat)), some (.ref S), w])
      ⟨(sH3.trans s4).trans s5, f5, ?_, _, _, rfl⟩ (fun i σ H' _ h => SqT.of h.2.1) ?_ ?_⟩
    · rw [fS5]
      simp
    · rintro i x σ H' hi ⟨t1, t2, t3, v, w, rfl⟩
      have hi4 : i < 4 := by have := (List.getElem?_eq_some_iff.mp hi).1; simpa using this
      obtain ⟨z, P, hz, hP, rfl⟩ : ∃ (z : Int) (P : Pic), IsF ps z P ∧ ([PA, PB, PC, PD] : List Pic)[i]? = some P ∧ x = .int z := by
        have : i = 0 ∨ i = 1 ∨ i = 2 ∨ i = 3 := by omega
        rcases this with rfl | rfl | rfl | rfl <;> simp at hi <;> subst hi
        · exact ⟨a, PA, hA, rfl, rfl⟩
        · exact ⟨b, PB, hB, rfl, rfl⟩
        · exact ⟨c, PC, hC, rfl, rfl⟩
        · exact ⟨d, PD, hD, rfl, rfl⟩
      have hPm : P.depth ≤ m := by
        have : i = 0 ∨ i = 1 ∨ i = 2 ∨ i = 3 := by omega
        rcases this with rfl | rfl | rfl | rfl <;> simp at hP <;> subst hP <;> rw [← hm0] <;> simp only [fourMax] <;> omega
      have et : (([PA, PB, PC, PD] : List Pic).take (i + 1)) = (([PA, PB, PC, PD] : List Pic).take i) ++ [P] := by
        rw [List.take_add_one, hP]
        rfl
      walk_at "z"
      refine ⟨_, rfl, by decide, by decide, ?_⟩
      refine for_range (fun k σ H' => Same H H' ∧ H' tp3 = some (.tup [V.int a, V.int b, V.int c, V.int d]) ∧ H' S = some (.lst ((List.range 10).map fun j => V.int (part4 m (([PA, PB, PC, PD] : List Pic).take i) j + if j < k then term4 m P j else 0)))
        ∧ ∃ w, σ = [some (.ref p), some (.int a), some (.int b), some (.int c), some (.int d), some (.int z), some (.int (m : Nat)), some (.ref S), w]) ⟨t1, t2, by rw [t3]; simp, _, rfl⟩ ?_ ?_
      · rintro k σ H6 hk ⟨u1, u2, u3, w, rfl⟩
        have hk10 : k < 10 := by omega
        have hF6 := hF.same u1
        obtain ⟨dx6, ob6⟩ := hF6.ob
        obtain ⟨ss, hs, hsl, hs3⟩ := hF6.sums
        have hlt : z.toNat < ss.length := by have := (List.getElem?_eq_some_iff.mp hz.2).1; omega
        obtain ⟨da, nfa, ha⟩ := hs3 z.toNat _ P (List.getElem?_eq_getElem hlt) hz.2
        walk_at "z"
        refine z_getL (n := k) (SqL.of u3) (by omega) (by rw [List.getElem?_map, List.getElem?_range hk10]; rfl) ?_
        walk_at "z"
        refine z_fldR ob6 T.cFaces T.aFaces_sums lkFaces_sums ?_
        walk_at "z"
        refine z_ixL (SqL.of hs) (atI_of (n := z.toNat) (v := .ref (ss[z.toNat])) (by rw [List.getElem?_map, List.getElem?_eq_getElem hlt]; rfl) (by have := hz.1; omega)) ?_
        walk_at "z"
        refine z_ixL (SqL.of ha) (atI_of (n := k) (v := .int (P.cnt (k : Int))) (by simp [Pic.sums, hk10]) (by omega)) ?_
        walk_at "z"
        refine z_fldR ob6 T.cFaces T.aFaces_depths lkFaces_depths ?_
        walk_at "z"
        refine z_ixL (SqL.of hF6.depths) (FacesAt.depthAt hz) ?_
        walk_at "z"
        refine ⟨m - P.depth, by
          have : ((m : Nat) : Int) - (P.depth : Nat) = ((m - P.depth : Nat) : Int) := by omega
          rw [this]
          rfl, by omega, ?_⟩
        have hb := cnt_bd P (k : Int)
        have hd12 : P.depth ≤ 12 := by omega
        have h24 : (4 : Int) ^ P.depth ≤ 4 ^ 12 := by
          have e1 : (4 : Int) ^ 12 = 4 ^ P.depth * 4 ^ (12 - P.depth) := by rw [← pow4_add]; congr 1; omega
          have h1 : (1 : Int) ≤ 4 ^ (12 - P.depth) := by have := pow4 (12 - P.depth); omega
          have h2 := Int.mul_le_mul_of_nonneg_left h1 (Int.le_of_lt (pow4 P.depth))
          rw [e1]; omega
        have h25 : (4 : Int) ^ (m - P.depth) ≤ 4 ^ 12 := by
          have e1 : (4 : Int) ^ 12 = 4 ^ (m - P.depth) * 4 ^ (12 - (m - P.depth)) := by rw [← pow4_add]; congr 1; omega
          have h1 : (1 : Int) ≤ 4 ^ (12 - (m - P.depth)) := by have := pow4 (12 - (m - P.depth)); omega
          have h2 := Int.mul_le_mul_of_nonneg_left h1 (Int.le_of_lt (pow4 (m - P.depth)))
          rw [e1]; omega
        have h26 := pow4 (m - P.depth)
        have h27 : (4 : Int) ^ 12 = 16777216 := by decide
        refine z_mulI (mulS (by omega) (by omega)) ?_
        walk_at "z"
        refine z_setL (n := k) u3 (by omega) (by simp; omega) ?_
        refine ⟨u1.set hS0, ?_, ?_, _, rfl⟩
        · rw [upd_ne (ne_of u2 u3 (by intro z; cases z))]
          exact u2
        · rw [upd_same, map_set]
          congr 2
          apply List.map_congr_left
          intro j hj
          by_cases hjk : j = k
          · subst hjk
            rw [if_pos rfl, if_neg (Nat.lt_irrefl _), if_pos (Nat.lt_succ_self _)]
            simp [term4]
          · rw [if_neg hjk]
            by_cases h2 : j < k
            · rw [if_pos h2, if_pos (by omega)]
            · rw [if_neg h2, if_neg (by omega)]
      · rintro σ H6 ⟨u1, u2, u3, w, rfl⟩
        refine ⟨u1, u2, ?_, _, _, rfl⟩
        rw [u3, et]
        congr 2
        apply List.map_congr_left
        intro j hj
        have hj10 : j < Int.toNat 10 := by simpa using hj
        rw [part4_add, if_pos hj10]
    · rintro σ H' ⟨t1, t2, t3, v, w, rfl⟩
      have hF6 := hF.same t1
      obtain ⟨dx6, ob6⟩ := hF6.ob
      walk_at "z"
      refine z_methR ob6 noFaces_stored ?_
      walk_at "z"
      refine ⟨sz1000 (by simp), fun t ht => ?_⟩
      walk_at "z"
      have tS : S ≠ t := ne_of_none t3 ht
      refine ⟨p, A, D, ps, .q PA PB PC PD, t, S, by rw [edep]; rfl, hF6.same (Same.new ht), ?_, ?_, ?_, ?_, ⟨by omega, fun z => c1 (same.mpr z)⟩, hl, fun H7 D' kp hF7 d1 d2 => ?_⟩
      · rw [upd_same]
        simp only [nodeOf, List.map_cons, List.map_nil]
        rw [← ea, ← eb, ← ec, ← ed]
      · rw [upd_ne tS, t3]
        congr 2
        simp only [Pic.sums, List.map_map]
        apply List.map_congr_left
        intro j hj
        simp only [Function.comp, part4, term4, Pic.cnt, List.take, List.map, List.sum_cons, List.sum_nil, List.length]
        rw [← hm0]
        simp only [fourMax]
        congr 1
        omega
      · intro z
        have hex : ∀ b, A.foot b → H b ≠ none := fun b hb z => by
          obtain ⟨ns, hn, _⟩ := hF.nodes
          obtain ⟨ss, hs, _⟩ := hF.sums
          obtain ⟨kvs, hk, _⟩ := hF.known
          obtain ⟨wh, hw, _⟩ := hF.whirl
          rcases hb with rfl | rfl | rfl | rfl | rfl
          · rw [hn] at z; cases z
          · rw [hF.depths] at z; cases z
          · rw [hs] at z; cases z
          · rw [hk] at z; cases z
          · rw [hw] at z; cases z
        exact hex S z hS0
      · intro Q hQ
        simp [Pic.parts] at hQ
        rcases hQ with rfl | rfl | rfl | rfl
        · exact hA.mem
        · exact hB.mem
        · exact hC.mem
        · exact hD.mem
      · refine qk (by omega) H7 D' ((t1.trans (Same.new ht)).keep.trans kp) hF7 d1 fun x hx => ?_
        rcases d2 x hx with z | rfl | rfl
        · exact .inl z
        · exact .inr (t1.free ht)
        · exact .inr hS0
def v4 (r : Int × Int × Int × Int) : List V := [.int r.1, .int r.2.1, .int r.2.2.1, .int r.2.2.2]
def spArr (K : PySem.W.Frag) : Sp := fun vs H Q _ => ∃ (t : Int) (l : Addr) (x : Int × Int × Int × Int), vs = [.int t, .ref l] ∧ SqL K H l (v4 x) ∧ (∀ H' q, Same H H' → H' q = some (.tup (v4 (arr t x))) → Q (.ref q) H')
abbrev narranged : List Str := ["turning", "four", "a", "b", "c", "d", "step"]
abbrev parranged : List Str := ["turning", "four"]
theorem scarranged : FnScope narranged parranged (defScope sarranged) := ⟨rfl, rfl, rfl, by decide +kernel, rfl, by decide +kernel, by decide +kernel⟩
theorem ok_arranged {P : Program} {w : World} {K : PySem.W.Frag} {mg : Str → Option Value} {base : Heap} (T : Tx w K mg) : Fk P w K mg base 1 (He.ga K "arranged") parranged (spArr K) := by
  refine Fk.mk' T.farranged scarranged (fun _ _ _ _ _ _ us hl => match us, hl with | [_, _], _ => rfl) (by
  intro vs H Q E h
  repeat (first | (obtain ⟨h1, _⟩ := h; subst h1; rfl) | (obtain ⟨_, h⟩ := h))) (fun cdv A outer s H vs Q E hr h => ?_)
  have hu := hu_of hr
  have hu64 := hr.units
  refine ⟨_, (pss_cons (ps_asg (pv 1) (k_pgl (n := 4) K rfl (pgs_cons (pg_name (i := 2) scarranged.nd rfl (Or.inl rfl)) (pgs_cons (pg_name (i := 3) scarranged.nd rfl (Or.inl rfl)) (pgs_cons (pg_name (i := 4) scarranged.nd rfl (Or.inl rfl)) (pgs_cons (pg_name (i := 5) scarranged.nd rfl (Or.inl rfl)) pgs_nil))))))
  (pss_cons (ps_if (pt_cmpR op_gt (pv 0) pe_int (nomark _)) (pss_one (ps_asg (pe_tup (pa_cons (pv 3) (pa_cons (pv 2) (pa_cons (pv 5) (pa_cons (pv 4) pa_nil))))) (k_pgt (n := 4) K rfl (pgs_cons (pg_name (i := 2) scarranged.nd rfl (Or.inl rfl)) (pgs_cons (pg_name (i := 3) scarranged.nd rfl (Or.inl rfl)) (pgs_cons (pg_name (i := 4) scarranged.nd rfl (Or.inl rfl)) (pgs_cons (pg_name (i := 5) scarranged.nd rfl (Or.inl rfl)) pgs_nil))))))) pss_nil)
  (pss_cons (ps_for (passes_of rfl) rfl (pi_range1 (by rfl) T.urange (pa_cons (pe_op op_mod (pv 0) pe_int) pa_nil)) (pg_name (i := 6) scarranged.nd rfl (Or.inl rfl)) (pss_one (ps_asg (pe_tup (pa_cons (pv 4) (pa_cons (pv 2) (pa_cons (pv 5) (pa_cons (pv 3) pa_nil))))) (k_pgt (n := 4) K rfl (pgs_cons (pg_name (i := 2) scarranged.nd rfl (Or.inl rfl)) (pgs_cons (pg_name (i := 3) scarranged.nd rfl (Or.inl rfl)) (pgs_cons (pg_name (i := 4) scarranged.nd rfl (Or.inl rfl)) (pgs_cons (pg_name (i := 5) scarranged.nd rfl (Or.inl rfl)) pgs_nil))))))))
  (pss_one (ps_ret (pe_tup (pa_cons (pv 2) (pa_cons (pv 3) (pa_cons (pv 4) (pa_cons (pv 5) pa_nil)))))))))), ?_⟩
  try dsimp only [cxOf]
  obtain ⟨t, l, x, rfl, hl, q⟩ := h
  obtain ⟨a, b, c, d⟩ := x
  have h0 : 0 ≤ t % 4 := Int.emod_nonneg _ (by decide)
  have h4 : t % 4 < 4 := Int.emod_lt_of_pos _ (by decide)
  walk_at "z"
  refine z_gLst hl rfl ?_
  unfold v4
  walk_at "z"
  refine z_ite (fun c0 => ?_) (fun c0 => ?_)
  · walk_at "z"
    walk_at "zt"
    rename_i q1 n1 H1 s1 f1
    walk_at "z"
    refine z_gTup (SqT.of f1) rfl ?_
    walk_at "z"
    refine z_I (by decide) ?_
    walk_at "z"
    refine ⟨_, rfl, by omega, by omega, ?_⟩
    refine for_range (fun i σ H' => Same H H' ∧ ∃ st, σ = [some (.int t), some (.ref l), some (.int (rots4 i (b, a, d, c)).1), some (.int (rots4 i (b, a, d, c)).2.1), some (.int (rots4 i (b, a, d, c)).2.2.1), some (.int (rots4 i (b, a, d, c)).2.2.2), st]) ⟨s1, none, rfl⟩ ?_ ?_
    · rintro i σ H' hi ⟨s2, st, rfl⟩
      walk_at "z"
      walk_at "zt"
      rename_i q2 n2 H2 s3 f3
      walk_at "z"
      refine z_gTup (SqT.of f3) rfl ?_
      walk_at "z"
      exact ⟨s2.trans s3, _, rfl⟩
    · rintro σ H' ⟨s2, st, rfl⟩
      walk_at "z"
      walk_at "zt"
      rename_i q2 n2 H2 s3 f3
      refine q _ _ (s2.trans s3) ?_
      rw [f3]
      unfold v4 arr
      rw [if_pos c0]
  · walk_at "z"
    refine z_I (by decide) ?_
    walk_at "z"
    refine ⟨_, rfl, by omega, by omega, ?_⟩
    refine for_range (fun i σ H' => Same H H' ∧ ∃ st, σ = [some (.int t), some (.ref l), some (.int (rots4 i (a, b, c, d)).1), some (.int (rots4 i (a, b, c, d)).2.1), some (.int (rots4 i (a, b, c, d)).2.2.1), some (.int (rots4 i (a, b, c, d)).2.2.2), st]) ⟨Same.refl _, none, rfl⟩ ?_ ?_
    · rintro i σ H' hi ⟨s2, st, rfl⟩
      walk_at "z"
      walk_at "zt"
      rename_i q2 n2 H2 s3 f3
      walk_at "z"
      refine z_gTup (SqT.of f3) rfl ?_
      walk_at "z"
      exact ⟨s2.trans s3, _, rfl⟩
    · rintro σ H' ⟨s2, st, rfl⟩
      walk_at "z"
      walk_at "zt"
      rename_i q2 n2 H2 s3 f3
      refine q _ _ (s2.trans s3) ?_
      rw [f3]
      unfold v4 arr
      rw [if_neg c0]
def spWhirled (C : Addr) (n : Nat) : Sp := fun vs H Q _ => ∃ p A D ps bs, ∃ f t : Int, ∃ P, vs = [.ref p, .int f, .int t] ∧ FacesAt C H p A D ps ∧ IsF ps f P ∧ (0 ≤ t ∧ t < 8) ∧ P.depth < n ∧ Base bs ps ∧ bs.length ≤ 10000 ∧
  AfterX C H p A D bs ps fun ps' H' => P.turn t ∈ ps' → Q (.int (ix ps' (P.turn t) : Nat)) H'
abbrev nFaces_whirled : List Str := ["self", "face", "turning", "part", "parts", "a", "b", "c", "d"]
abbrev pFaces_whirled : List Str := ["self", "face", "turning"]
theorem scFaces_whirled : FnScope nFaces_whirled pFaces_whirled (defScope sFaces_whirled) := ⟨rfl, rfl, rfl, by decide +kernel, rfl, by decide +kernel, by decide +kernel⟩
theorem ok_Faces_whirled {P : Program} {w : World} {K : PySem.W.Frag} {mg : Str → Option Value} {base : Heap} (T : Tx w K mg) : ∀ n : Nat, Fk P w K mg base (2 + n) (He.ma K (He.ga K "Faces") "whirled") pFaces_whirled (spWhirled (He.ga K "Faces") n)
  | 0 => (Fk.no T.fFaces_whirled (fun _ _ _ _ _ _ us hl => match us, hl with | [_, _, _], _ => rfl) (fun vs H Q E ⟨_, _, _, _, _, _, _, _, _, _, _, _, h, _⟩ => absurd h (Nat.not_lt_zero _))).up (by omega)
  | n + 1 => by
      have GR := ok_Faces_whirled (P := P) (w := w) (base := base) T n
      have Garranged := ok_arranged (P := P) (w := w) (base := base) T
      have GFaces_four := ok_Faces_four (P := P) (w := w) (base := base) T
      refine Fk.mk' (k := 2 + n) T.fFaces_whirled scFaces_whirled (fun _ _ _ _ _ _ us hl => match us, hl with | [_, _, _], _ => rfl) (by
        intro vs H Q E h
        repeat (first | (obtain ⟨h1, _⟩ := h; subst h1; rfl) | (obtain ⟨_, h⟩ := h))) (fun cdv A outer s H vs Q E hr h => ?_)
      have hu := hu_of hr
      have hu64 := hr.units
      refine ⟨_, (pss_cons (ps_if (PW.pt (pw_or (pt_cmpR (k_eq K hu64) (k_ix K (k_fld K (pv 0) rfl) (pv 1) (fun _ _ => rfl)) pe_int (nomark _)) (pw_or1 (pt_cmpR (k_eq K hu64) (pv 2) pe_int (nomark _))))) (pss_one (ps_ret (pv 1))) pss_nil)
      (pss_cons (ps_if (pt_cmp (pc_dnotin hu (pe_tup (pa_cons (pv 1) (pa_cons (pv 2) pa_nil))) (k_fld K (pv 0) rfl))) (pss_cons (ps_setLc (i := 4) (own := [("part", 3)]) (g := gName 3) rfl scFaces_whirled.nd rfl rfl (sw_true rfl rfl rfl (by decide +kernel)) (k_pit K (k_ix K (k_fld K (pv 0) rfl) (pv 1) (fun _ _ => rfl))) (blkOk_by (own := [("part", 3)]) (N := nFaces_whirled) (sc := defScope sFaces_whirled) (by decide +kernel)) (fun _ _ _ _ _ => pg_name (i := 3) scFaces_whirled.nd rfl (Or.inl rfl)) (fun _ _ _ _ _ => pts_nil) (fun _ _ _ _ _ => (q_meth (pv 0) T.cFaces T.mFaces_whirled GR (hr.mono (by omega)) passL (pa_cons (pv 3) (pa_cons (pv 2) pa_nil)))))
      (pss_cons (ps_asg (q_call Garranged (hr.mono (by omega)) T.garranged passX (pa_cons (pv 2) (pa_cons (pv 4) pa_nil))) (k_pgt (n := 4) K rfl (pgs_cons (pg_name (i := 5) scFaces_whirled.nd rfl (Or.inl rfl)) (pgs_cons (pg_name (i := 6) scFaces_whirled.nd rfl (Or.inl rfl)) (pgs_cons (pg_name (i := 7) scFaces_whirled.nd rfl (Or.inl rfl)) (pgs_cons (pg_name (i := 8) scFaces_whirled.nd rfl (Or.inl rfl)) pgs_nil))))))
      (pss_one (ps_dput hu (k_fld K (pv 0) rfl) (pe_tup (pa_cons (pv 1) (pa_cons (pv 2) pa_nil))) (q_meth (pv 0) T.cFaces T.mFaces_four GFaces_four (hr.mono (by omega)) passX (pa_cons (pv 5) (pa_cons (pv 6) (pa_cons (pv 7) (pa_cons (pv 8) pa_nil))))) rfl)))) pss_nil)
      (pss_one (ps_ret (pe_dget hu (k_fld K (pv 0) rfl) (pe_tup (pa_cons (pv 1) (pa_cons (pv 2) pa_nil))) (fun _ _ => rfl)))))), ?_⟩
      try dsimp only [cxOf]
      obtain ⟨p, A, D, ps, bs, f, t, P, rfl, hF, hP, ⟨t0, t8⟩, hd, hB, hbs, q⟩ := h
      obtain ⟨dx, ob⟩ := hF.ob
      have same : P.turn t = P → Q (.int f) H := fun e => by
        have e1 := q [] (by rw [List.append_nil]; exact hB) H D (Keep.refl _ _) (by rw [List.append_nil]; exact hF) (fun _ h => h) (fun b h => .inl h)
        rw [List.append_nil, e] at e1
        rw [IsF.eq hF.inv.nd hP]
        exact e1 hP.mem
      walk_at "z"
      refine z_fldR ob T.cFaces T.aFaces_depths lkFaces_depths ?_
      walk_at "z"
      refine z_ixL (SqL.of hF.depths) (FacesAt.depthAt hP) ?_
      walk_at "z"
      refine z_ite (fun c1 => ?_) (fun c1 => ?_)
      · walk_at "z"
        obtain ⟨c, rfl⟩ := depth_zero (P := P) (by omega)
        exact same rfl
      walk_at "z"
      refine z_ite (fun c2 => ?_) (fun c2 => ?_)
      · walk_at "z"
        exact same (by rw [c2, turn_zero])
      walk_at "z"
      walk_at "zt"
      rename_i kt nkt H1 s1 f1
      have hF1 := hF.same s1
      obtain ⟨dx1, ob1⟩ := hF1.ob
      obtain ⟨wh, hw, wok⟩ := hF1.whirl
      walk_at "z"
      refine z_fldR ob1 T.cFaces T.aFaces_whirls lkFaces_whirls ?_
      refine z_dniR (DGet.t (k := [.inl f, .inl t]) hw f1) ?_
      walk_at "z"
      have last : ∀ (qs : List Pic) (H9 : Hp) (D9 : Addr → Prop), Keep A.foot H H9 → FacesAt (He.ga K "Faces") H9 p A D9 (ps ++ qs) → Base bs (ps ++ qs) → (∀ b, D b → D9 b) → (∀ b, D9 b → D b ∨ H b = none) → P.turn t ∈ ps ++ qs → ∀ wh9, H9 A.w = some (.dT wh9) →
          valV wh9 [.inl f, .inl t] = some (.int (ix (ps ++ qs) (P.turn t) : Nat)) → ∀ R, H9 R = some (.tup [.int f, .int t]) → rDGt (.ref A.w) (.ref R) H9 Q := by
        intro qs H9 D9 kp hF9 hB9 d1 d2 hm wh9 hw9 hv R hR
        refine z_dgetR (v := .int (ix (ps ++ qs) (P.turn t) : Nat)) ?_ (q qs hB9 H9 D9 kp hF9 d1 d2 hm)
        have g := DGet.t (k := [.inl f, .inl t]) hw9 hR
        rw [hv] at g
        exact g
      cases hv : valV wh [.inl f, .inl t] with
      | some v =>
        obtain ⟨P', hP', hm', rfl⟩ := wok.val f t v hv
        obtain rfl := hP'.inj hP
        refine iteF ?_
        walk_at "z"
        refine z_fldR ob1 T.cFaces T.aFaces_whirls lkFaces_whirls ?_
        walk_at "z"
        walk_at "zt"
        rename_i kt2 nkt2 H2 s2 f2
        refine last [] H2 D (s1.trans s2).keep (by rw [List.append_nil]; exact hF1.same s2) (by rw [List.append_nil]; exact hB) (fun _ h => h) (fun b h => .inl h) (by rw [List.append_nil]; exact hm') wh (s2 _ _ hw) (by rw [List.append_nil]; exact hv) kt2 f2
      | none =>
        refine iteT ?_
        cases P with
        | p c => exact absurd rfl c1
        | q x y z w =>
        have hpin := hF.inv.cl _ hP.mem
        have hok := hF.inv.ok _ hP.mem
        have hxs : ∀ (i : Nat) (Q : Pic), ([x, y, z, w] : List Pic)[i]? = some Q → Q ∈ ps ∧ Q.depth < n := fun i Q e => by
          have hmem : Q ∈ [x, y, z, w] := List.mem_of_getElem? e
          refine ⟨hpin Q hmem, ?_⟩
          simp only [Pic.depth] at hd
          simp only [List.mem_cons, List.not_mem_nil, or_false] at hmem
          rcases hmem with rfl | rfl | rfl | rfl <;> omega
        obtain ⟨ns, hn, n2, n3⟩ := hF1.nodes
        have hlt : f.toNat < ns.length := by have := hP.1; have := hP.lt; omega
        obtain ⟨da, ha⟩ := n3 f.toNat _ _ (List.getElem?_eq_getElem hlt) hP.2
        walk_at "z"
        refine z_fldR ob1 T.cFaces T.aFaces_nodes lkFaces_nodes ?_
        walk_at "z"
        refine z_ixL (SqL.of hn) (atI_of (n := f.toNat) (v := .ref (ns[f.toNat])) (by rw [List.getElem?_map, List.getElem?_eq_getElem hlt]; rfl) (by have := hP.1; omega)) ?_
        have hnx : (nodeOf ps (Pic.q x y z w)).map V.int = ([x, y, z, w] : List Pic).map fun Q => V.int (ix ps Q : Nat) := rfl
        rw [hnx] at ha
        generalize ns[f.toNat] = nd at da ha ⊢
        refine ⟨nd, rfl, ⟨_, SqT.of ha⟩, fun L hL => ?_⟩
        have hLD : ¬ D L := hF1.nd hL
        have hL0 : H L = none := s1.free hL
        refine lc_tup (K := K) (a := nd) (xs := ([x, y, z, w] : List Pic).map fun Q => V.int (ix ps Q : Nat)) (fun i H' => ∃ qs D', Keep A.foot H1 H' ∧ FacesAt (He.ga K "Faces") H' p A D' (ps ++ qs) ∧ Base bs (ps ++ qs) ∧ (∀ b, D b → D' b) ∧ (∀ b, D' b → D b ∨ H1 b = none) ∧ ¬ D' L ∧
            H' L = some (.lst ((([x, y, z, w] : List Pic).take i).map fun Q => V.int (ix (ps ++ qs) (Q.turn t) : Nat))) ∧ ∀ Q ∈ ([x, y, z, w] : List Pic).take i, Q.turn t ∈ ps ++ qs)
          ⟨[], D, (Keep.refl _ _).setNew hL, by rw [List.append_nil]; exact hF1.same (Same.new hL), by rw [List.append_nil]; exact hB, fun _ h => h, fun b h => .inl h, hLD, upd_same, fun Q hQ => by simp at hQ⟩
          (fun i H' _ ⟨qs, D', kp, _⟩ => SqT.of (kp _ _ ha (foot_tup hF1 ha))) ?_ ?_
        · rintro i u H' hi ⟨qs, D', kp, hF2, hB2, d1, d2, nL, hL2, hm⟩
          obtain ⟨Q', hQ', rfl⟩ : ∃ Q', ([x, y, z, w] : List Pic)[i]? = some Q' ∧ u = .int (ix ps Q' : Nat) := by
            rw [List.getElem?_map] at hi
            cases e : ([x, y, z, w] : List Pic)[i]? with
            | none => rw [e] at hi; cases hi
            | some Q' => rw [e] at hi; exact ⟨Q', rfl, (Option.some.inj hi).symm⟩
          obtain ⟨hQm, hQd⟩ := hxs i Q' hQ'
          have hi4 : i < 4 := by have := (List.getElem?_eq_some_iff.mp hQ').1; simpa using this
          obtain ⟨dx2, ob2⟩ := hF2.ob
          walk_at "zw"
          walk_at "z"
          refine ⟨rfl, ?_⟩
          walk_at "z"
          refine z_methR ob2 noFaces_whirled ?_
          walk_at "z"
          refine ⟨p, A, D', ps ++ qs, bs, _, t, Q', rfl, hF2, (IsF.ix hQm).app, ⟨t0, t8⟩, hQd, hB2, hbs, fun qs2 hB3 H3 D3 kp3 hF3 e1 e2 hm3 => ?_⟩
          have hL3 : H3 L = some (.lst ((([x, y, z, w] : List Pic).take i).map fun Q => V.int (ix (ps ++ qs) (Q.turn t) : Nat))) := kp3 _ _ hL2 (hF2.ofFoot nL)
          have nL3 : ¬ D3 L := fun zz => (e2 _ zz).elim nL (fun e => by rw [hL2] at e; cases e)
          refine ⟨_, hL3, szlt (by simp; omega), qs ++ qs2, D3, (kp.trans kp3).setNew hL, ?_, by rw [← List.append_assoc]; exact hB3, fun b hb => e1 b (d1 b hb), fun b hb => ?_, nL3, ?_, ?_⟩
          · rw [← List.append_assoc]
            exact hF3.keep fun b o hb e => by rw [upd_ne (fun zz => nL3 (by rw [← zz]; exact hb))]; exact e
          · rcases e2 b hb with zz | zz
            · exact d2 b zz
            · refine .inr ?_
              cases e : H1 b with
              | none => rfl
              | some o =>
                by_cases hf : A.foot b
                · obtain ⟨o2, e2⟩ := hF2.ex b (hF2.df b hf)
                  rw [e2] at zz; cases zz
                · rw [kp b o e hf] at zz; cases zz
          · rw [upd_same, List.take_add_one, hQ', ← List.append_assoc]
            congr 2
            rw [List.map_append]
            congr 1
            apply List.map_congr_left
            intro R hR
            rw [ix_app (hm R hR)]
          · intro R hR
            rw [← List.append_assoc]
            rw [List.take_add_one, hQ'] at hR
            rcases List.mem_append.mp hR with zz | zz
            · exact List.mem_append_left _ (hm R zz)
            · simp at zz
              rw [zz]; exact hm3
        · rintro H2 ⟨qs, D', kp, hF2, hB2, d1, d2, nL, hL2, hm⟩
          have hx := hm x (by simp)
          have hy := hm y (by simp)
          have hz := hm z (by simp)
          have hw4 := hm w (by simp)
          walk_at "z"
          refine ⟨t, L, ((ix (ps ++ qs) (x.turn t) : Nat), (ix (ps ++ qs) (y.turn t) : Nat), (ix (ps ++ qs) (z.turn t) : Nat), (ix (ps ++ qs) (w.turn t) : Nat)), rfl, SqL.of hL2, fun H3 r s3 hr => ?_⟩
          refine z_gTup (SqT.of hr) rfl ?_
          unfold v4
          have hF3 := hF2.same s3
          obtain ⟨dx3, ob3⟩ := hF3.ob
          have em : arr t (((ix (ps ++ qs) (x.turn t) : Nat) : Int), ((ix (ps ++ qs) (y.turn t) : Nat) : Int), ((ix (ps ++ qs) (z.turn t) : Nat) : Int), ((ix (ps ++ qs) (w.turn t) : Nat) : Int)) = map4 (fun Q => ((ix (ps ++ qs) Q : Nat) : Int)) (arr t (x.turn t, y.turn t, z.turn t, w.turn t)) :=
            (arr_map t0 t8 (fun Q => ((ix (ps ++ qs) Q : Nat) : Int)) (x.turn t, y.turn t, z.turn t, w.turn t)).symm
          rw [em]
          have et : (Pic.q x y z w).turn t = q4 (arr t (x.turn t, y.turn t, z.turn t, w.turn t)) := turn_q t x y z w
          have hmem : ∀ R ∈ (q4 (arr t (x.turn t, y.turn t, z.turn t, w.turn t))).parts, R ∈ ps ++ qs := by
            rcases eight t0 t8 with rfl | rfl | rfl | rfl | rfl | rfl | rfl | rfl <;>
              (intro R hR; simp only [q4, arr, rots4, rot4, Pic.parts] at hR; simp at hR; rcases hR with rfl | rfl | rfl | rfl <;> assumption)
          have hok2 : (q4 (arr t (x.turn t, y.turn t, z.turn t, w.turn t))).ok := by rw [← et]; exact turn_ok t0 t8 hok
          have hBt : ∃ B ∈ bs, ∃ u : Int, (0 ≤ u ∧ u < 8) ∧ q4 (arr t (x.turn t, y.turn t, z.turn t, w.turn t)) = B.turn u := by rw [← et]; exact hB.turn hP.mem t0 t8
          rw [et] at q last
          generalize arr t (x.turn t, y.turn t, z.turn t, w.turn t) = r4 at et hmem hok2 hBt q last ⊢
          obtain ⟨a, b, c, d⟩ := r4
          have ma : a ∈ ps ++ qs := hmem a (by simp [q4, Pic.parts])
          have mb : b ∈ ps ++ qs := hmem b (by simp [q4, Pic.parts])
          have mc : c ∈ ps ++ qs := hmem c (by simp [q4, Pic.parts])
          have md : d ∈ ps ++ qs := hmem d (by simp [q4, Pic.parts])
          have hmk : Pic.mk a b c d = .q a b c d := mk_ok hok2
          have hle := hB2.len hF2.inv.nd
          simp only [map4]
          walk_at "z"
          refine z_methR ob3 noFaces_four ?_
          walk_at "z"
          refine ⟨p, A, D', ps ++ qs, _, _, _, _, rfl, hF3, by omega, fun no => absurd ⟨⟨(IsF.ix ma).1, (IsF.ix ma).lt⟩, ⟨(IsF.ix mb).1, (IsF.ix mb).lt⟩, ⟨(IsF.ix mc).1, (IsF.ix mc).lt⟩, ⟨(IsF.ix md).1, (IsF.ix md).lt⟩⟩ no, fun PA PB PC PD hA hB5 hC hD => ?_⟩
          obtain rfl := hA.inj (IsF.ix ma)
          obtain rfl := hB5.inj (IsF.ix mb)
          obtain rfl := hC.inj (IsF.ix mc)
          obtain rfl := hD.inj (IsF.ix md)
          rw [hmk]
          refine ⟨fun deep => absurd hok2.1 (by simp only [q4] at deep ⊢; omega), fun _ H4 D4 kp4 hF4 g1 g2 => ?_⟩
          have hB4 := hB2.add hBt
          obtain ⟨rs, ers⟩ := addP_ext (ps ++ qs) (.q PA PB PC PD)
          have hm4 : (q4 (PA, PB, PC, PD)) ∈ addP (ps ++ qs) (.q PA PB PC PD) := addP_mem _ _
          have hle4 := hB4.len hF4.inv.nd
          have eq4 : q4 (PA, PB, PC, PD) = Pic.q PA PB PC PD := rfl
          rw [eq4] at hm4 hB4 hle4 last et
          rw [ers, List.append_assoc] at hF4 hB4 hm4 hle4 ⊢
          obtain ⟨dx4, ob4⟩ := hF4.ob
          have keep14 : Keep A.foot H H4 := (s1.keep.trans kp).trans (s3.keep.trans kp4)
          have fresh4 : ∀ b, D4 b → D b ∨ H b = none := fun b hb => by
            have back : H2 b = none → D b ∨ H b = none := fun zz => by
              cases e : H b with
              | none => exact .inr rfl
              | some o =>
                by_cases hf : A.foot b
                · obtain ⟨o2, e2⟩ := hF2.ex b (hF2.df b hf)
                  rw [e2] at zz; cases zz
                · rw [kp b o (s1 _ _ e) hf] at zz; cases zz
            rcases g2 b hb with zz | zz
            · rcases d2 b zz with z1 | z1
              · exact .inl z1
              · exact .inr (s1.free z1)
            · exact back (s3.free zz)
          walk_at "z"
          refine z_fldR ob4 T.cFaces T.aFaces_whirls lkFaces_whirls ?_
          walk_at "z"
          walk_at "zt"
          rename_i kt5 nkt5 H5 s5 f5
          have hF5 := hF4.same s5
          obtain ⟨wh5, hw5, wok5⟩ := hF5.whirl
          have hwl := wok5.len
          have hPf : IsF (ps ++ (qs ++ rs)) f (.q x y z w) := hP.app
          have hput := wok5.put (t := t) hPf t0 t8 (by rw [et]; exact hm4)
          rw [et] at hput
          refine z_dputR (DPut.t (k := [.inl f, .inl t]) hw5 f5 (szbig (by omega))) ?_
          have hF6 := hF5.whirlSet hw5 hput
          have hw6 : upd H5 A.w (.dT (putK wh5 [.inl f, .inl t] (.int (ix (ps ++ (qs ++ rs)) (.q PA PB PC PD) : Nat)))) A.w = some (.dT (putK wh5 [.inl f, .inl t] (.int (ix (ps ++ (qs ++ rs)) (.q PA PB PC PD) : Nat)))) := upd_same
          have kp6 : Keep A.foot H5 (upd H5 A.w (.dT (putK wh5 [.inl f, .inl t] (.int (ix (ps ++ (qs ++ rs)) (.q PA PB PC PD) : Nat))))) := (Keep.refl _ _).set (.inr (.inr (.inr (.inr rfl))))
          generalize upd H5 A.w _ = H6 at hF6 hw6 kp6 ⊢
          obtain ⟨dx6, ob6⟩ := hF6.ob
          walk_at "z"
          refine z_fldR ob6 T.cFaces T.aFaces_whirls lkFaces_whirls ?_
          walk_at "z"
          walk_at "zt"
          rename_i kt7 nkt7 H7 s7 f7
          refine last (qs ++ rs) H7 D4 (keep14.trans (s5.keep.trans (kp6.trans s7.keep))) (hF6.same s7) hB4 (fun b hb => g1 b (d1 b hb)) fresh4 hm4 _ (s7 _ _ hw6) (by rw [valV_put, if_pos rfl]) kt7 f7
def spTurned (C N B : Addr) : Sp := fun vs H Q E => ∃ p A D ps bs, ∃ f t : Int, vs = [.ref p, .int f, .int t] ∧ FacesAt C H p A D ps ∧ Base bs ps ∧ bs.length ≤ 10000 ∧ (¬ (0 ≤ f ∧ f < ps.length) → E (.ref N) none H) ∧
  ∀ P, IsF ps f P → (¬ (0 ≤ t ∧ t ≤ 7) → E (.ref B) none H) ∧ ((0 ≤ t ∧ t < 8) → AfterX C H p A D bs ps fun ps' H' => P.turn t ∈ ps' → Q (.int (ix ps' (P.turn t) : Nat)) H')
abbrev nFaces_turned : List Str := ["self", "face", "turning"]
abbrev pFaces_turned : List Str := ["self", "face", "turning"]
theorem scFaces_turned : FnScope nFaces_turned pFaces_turned (defScope sFaces_turned) := ⟨rfl, rfl, rfl, by decide +kernel, rfl, by decide +kernel, by decide +kernel⟩
theorem ok_Faces_turned {P : Program} {w : World} {K : PySem.W.Frag} {mg : Str → Option Value} {base : Heap} (T : Tx w K mg) : Fk P w K mg base 16 (He.ma K (He.ga K "Faces") "turned") pFaces_turned (spTurned (He.ga K "Faces") (He.ga K "NoFace") (He.ga K "BadTurn")) := by
  have GFaces_need := ok_Faces_need (P := P) (w := w) (base := base) T
  have GFaces_whirled := ok_Faces_whirled (P := P) (w := w) (base := base) T 13
  refine Fk.mk' T.fFaces_turned scFaces_turned (fun _ _ _ _ _ _ us hl => match us, hl with | [_, _, _], _ => rfl) (by
  intro vs H Q E h
  repeat (first | (obtain ⟨h1, _⟩ := h; subst h1; rfl) | (obtain ⟨_, h⟩ := h))) (fun cdv A outer s H vs Q E hr h => ?_)
  have hu := hu_of hr
  have hu64 := hr.units
  refine ⟨_, (pss_cons (ps_expr (q_meth (pv 0) T.cFaces T.mFaces_need GFaces_need (hr.mono (by omega)) passX (pa_cons (pv 1) pa_nil)))
  (pss_cons (ps_if (PW.pt (pw_or (pt_cmpR op_lt (pv 2) pe_int (nomark _)) (pw_or1 (pt_cmpR op_gt (pv 2) pe_int (nomark _))))) (pss_one (ps_raise rfl takesX (pmk_own PySem.F.excBase_ValueError T.eBadTurn.1 T.gBadTurn T.eBadTurn.2.1 (raises_own T.eBadTurn.2.2.1 T.eBadTurn.2.2.2) (by rfl)))) pss_nil)
  (pss_one (ps_ret (q_meth (pv 0) T.cFaces T.mFaces_whirled GFaces_whirled (hr.mono (by omega)) passX (pa_cons (pv 1) (pa_cons (pv 2) pa_nil))))))), ?_⟩
  try dsimp only [cxOf]
  obtain ⟨p, A, D, ps, bs, f, t, rfl, hF, hB, hbs, e, q⟩ := h
  obtain ⟨dx, ob⟩ := hF.ob
  walk_at "z"
  refine z_methR ob noFaces_need ?_
  walk_at "z"
  refine ⟨p, A, D, ps, f, rfl, hF, fun c => ?_, e⟩
  obtain ⟨P, hP⟩ := IsF.ex c.1 c.2
  obtain ⟨q1, q2⟩ := q P hP
  have hd := ok_depth (hF.inv.ok _ hP.mem)
  walk_at "z"
  refine z_ite (fun c1 => ?_) (fun c1 => ?_)
  · walk_at "z"
    exact q1 (by omega)
  walk_at "z"
  refine z_ite (fun c2 => ?_) (fun c2 => ?_)
  · walk_at "z"
    exact q1 (by omega)
  walk_at "z"
  refine z_methR ob noFaces_whirled ?_
  walk_at "z"
  exact ⟨p, A, D, ps, bs, f, t, P, rfl, hF, hP, by omega, by omega, hB, hbs, q2 (by omega)⟩
def spNodesG (C : Addr) (K : PySem.W.Frag) : Sp := fun vs H Q _ => ∃ (p : Addr) (A : FA) (D : Addr → Prop) (cl : Addr) (ms : List Int) (ps0 bs : List Pic), vs = [.ref p, .ref cl] ∧ FacesAt C H p A D ps0 ∧ Base bs ps0 ∧ bs.length ≤ 200 ∧ H cl = some (.lst (ms.map V.int)) ∧ ¬ D cl ∧ ms.length ≤ 100 ∧
  ∀ H' q nl dl tl D' qs nds, Keep A.foot H H' → (∀ b, D' b → D b ∨ H b = none) → H' q = some (.tup [.ref nl, .ref dl, .ref tl]) → StandG bs C H' p A D' (ps0 ++ qs) nl dl tl (runP ms) nds → (runP ms).length ≤ 10 + ms.length → (H nl = none ∧ H dl = none ∧ H tl = none) → Q (.ref q) H'
abbrev n_law_nodes : List Str := ["_law_faces", "_law_cells", "_law_colour", "_law_nodes_here", "_law_deeps", "_law_told", "_law_cell_here", "_law_four", "_law_deep_here", "_law_at", "_law_turning", "_law_turned", "_law_face"]
abbrev p_law_nodes : List Str := ["_law_faces", "_law_cells"]
theorem sc_law_nodes : FnScope n_law_nodes p_law_nodes (defScope s_law_nodes) := ⟨rfl, rfl, rfl, by decide +kernel, rfl, by decide +kernel, by decide +kernel⟩
theorem ok__law_nodes {P : Program} {w : World} {K : PySem.W.Frag} {mg : Str → Option Value} {base : Heap} (T : Tx w K mg) : Fk P w K mg base 17 (He.ga K "_law_nodes") p_law_nodes (spNodesG (He.ga K "Faces") K) := by
  have GFaces_plain := ok_Faces_plain (P := P) (w := w) (base := base) T
  have G_law_quarters := ok__law_quarters (P := P) (w := w) (base := base) T
  have G_law_deep := ok__law_deep (P := P) (w := w) (base := base) T
  have GFaces_four := ok_Faces_four (P := P) (w := w) (base := base) T
  have GFaces_turned := ok_Faces_turned (P := P) (w := w) (base := base) T
  refine Fk.mk' T.f_law_nodes sc_law_nodes (fun _ _ _ _ _ _ us hl => match us, hl with | [_, _], _ => rfl) (by
  intro vs H Q E h
  repeat (first | (obtain ⟨h1, _⟩ := h; subst h1; rfl) | (obtain ⟨_, h⟩ := h))) (fun cdv A outer s H vs Q E hr h => ?_)
  have hu := hu_of hr
  have hu64 := hr.units
  refine ⟨_, (pss_cons (ps_setLc (i := 3) (own := [("_law_colour", 2)]) (g := gName 2) rfl sc_law_nodes.nd rfl rfl (sw_true rfl rfl rfl (by decide +kernel)) (pi_range1 (by rfl) T.urange (pa_cons pe_int pa_nil)) (blkOk_by (own := [("_law_colour", 2)]) (N := n_law_nodes) (sc := defScope s_law_nodes) (by decide +kernel)) (fun _ _ _ _ _ => pg_name (i := 2) sc_law_nodes.nd rfl (Or.inl rfl)) (fun _ _ _ _ _ => pts_nil) (fun _ _ _ _ _ => (pe_tup (pa_cons (pv 2) pa_nil))))
  (pss_cons (ps_set (i := 4) sc_law_nodes.nd rfl (Or.inl rfl) (pe_op op_mulU (pe_lst (pa_cons pe_int pa_nil)) pe_int))
  (pss_cons (ps_set (i := 5) sc_law_nodes.nd rfl (Or.inr rfl) (pe_lc (own := [("_law_colour", 2)]) (g := gName 2) rfl sc_law_nodes.nd (pi_range1 (by rfl) T.urange (pa_cons pe_int pa_nil)) (blkOk_by (own := [("_law_colour", 2)]) (N := n_law_nodes) (sc := defScope s_law_nodes) (by decide +kernel)) (fun _ _ _ _ _ => pg_name (i := 2) sc_law_nodes.nd rfl (Or.inl rfl)) (fun _ _ _ _ _ => pts_nil) (fun _ _ _ _ _ => (q_meth (pv 0) T.cFaces T.mFaces_plain GFaces_plain (hr.mono (by omega)) passL (pa_cons (pv 2) pa_nil)))))
  (pss_cons (ps_for (passes_of rfl) rfl (k_pil K (pv 1)) (pg_name (i := 6) sc_law_nodes.nd rfl (Or.inl rfl)) (pss_cons (ps_set (i := 7) sc_law_nodes.nd rfl (Or.inl rfl) (q_call G_law_quarters (hr.mono (by omega)) T.g_law_quarters passX (pa_cons (pv 6) (pa_cons (pe_callB (k_len K) (by rfl) T.ulen (by decide +kernel) (pa_cons (pv 3) pa_nil)) pa_nil))))
  (pss_cons (ps_set (i := 8) sc_law_nodes.nd rfl (Or.inl rfl) (q_call G_law_deep (hr.mono (by omega)) T.g_law_deep passX (pa_cons (pv 3) (pa_cons (pv 4) (pa_cons (pv 7) pa_nil)))))
  (pss_one (ps_if (pt_cmpR op_le (pv 8) pe_int (nomark _)) (pss_cons (ps_setLc (i := 11) (own := [("_law_at", 9), ("_law_turning", 10)]) rfl sc_law_nodes.nd rfl rfl (sw_true rfl rfl rfl (by decide +kernel)) (k_pit K (pv 7)) (blkOk_by (own := [("_law_at", 9), ("_law_turning", 10)]) (N := n_law_nodes) (sc := defScope s_law_nodes) (by decide +kernel)) (fun _ _ _ _ _ => (k_pgt (n := 2) K rfl (pgs_cons (pg_name (i := 9) sc_law_nodes.nd rfl (Or.inl rfl)) (pgs_cons (pg_name (i := 10) sc_law_nodes.nd rfl (Or.inl rfl)) pgs_nil)))) (fun _ _ _ _ _ => pts_nil) (fun _ _ _ _ _ => (q_meth (pv 0) T.cFaces T.mFaces_turned GFaces_turned (hr.mono (by omega)) passL (pa_cons (k_ix K (pv 5) (pv 9) (fun _ _ => rfl)) (pa_cons (pv 10) pa_nil)))))
  (pss_cons (ps_set (i := 12) sc_law_nodes.nd rfl (Or.inl rfl) (q_meth (pv 0) T.cFaces T.mFaces_four GFaces_four (hr.mono (by omega)) passX (pa_cons (k_ix K (pv 11) pe_int (fun _ _ => rfl)) (pa_cons (k_ix K (pv 11) pe_int (fun _ _ => rfl)) (pa_cons (k_ix K (pv 11) pe_int (fun _ _ => rfl)) (pa_cons (k_ix K (pv 11) pe_int (fun _ _ => rfl)) pa_nil))))))
  (pss_cons (ps_if (pt_cmpR (k_eq K hu64) (pv 8) pe_int (nomark _)) (pss_one (ps_set (i := 7) sc_law_nodes.nd rfl (Or.inl rfl) (k_ix K (pv 3) (k_ix K (k_ix K (pv 7) pe_int (fun _ _ => rfl)) pe_int (fun _ _ => rfl)) (fun _ _ => rfl)))) pss_nil)
  (pss_cons (ps_expr (k_bm K PySem.F.plainAttrs_list PySem.F.slot_list_append PySem.F.type_list_append mt_append (pv 3) (pa_cons (pv 7) pa_nil)))
  (pss_cons (ps_expr (k_bm K PySem.F.plainAttrs_list PySem.F.slot_list_append PySem.F.type_list_append mt_append (pv 4) (pa_cons (pv 8) pa_nil)))
  (pss_one (ps_expr (k_bm K PySem.F.plainAttrs_list PySem.F.slot_list_append PySem.F.type_list_append mt_append (pv 5) (pa_cons (pv 12) pa_nil))))))))) pss_nil)))))
  (pss_one (ps_ret (pe_tup (pa_cons (pv 3) (pa_cons (pv 4) (pa_cons (pv 5) pa_nil)))))))))), ?_⟩
  try dsimp only [cxOf]
  obtain ⟨p, A, D, cl, ms, ps0, bs, rfl, hF, hB, hbl, hcl, ncl, hms, q⟩ := h
  walk_at "z"
  refine ⟨_, rfl, by decide, by decide, fun nl hnl => ?_⟩
  refine lc_range (lo := 0) (n := 10) (fun i H' => Same H H' ∧ ∃ vs, H' nl = some (.lst vs) ∧ vs.length = i ∧ DvAll H' vs (((plains 10).take i).map fun P => PyData.tuple [.int (colP P)])) ⟨Same.new hnl, [], upd_same, rfl, .nil⟩ ?_ ?_
  · rintro i H' hi ⟨s1, vs, f1, l1, a1⟩
    have hi10 : i < 10 := hi
    have e0 : (0 : Int) + (i : Nat) = (i : Nat) := Int.zero_add _
    rw [e0]
    walk_at "zw"
    walk_at "z"
    refine ⟨rfl, ?_⟩
    walk_at "z"
    walk_at "zt"
    rename_i t nt H2 s2 f2
    have f1' := s2 _ _ f1
    refine ⟨vs, f1', szlt (by omega), (s1.trans s2).set hnl, _, upd_same, by simp [l1], ?_⟩
    rw [List.take_add_one, plains_get hi10]
    simp only [Option.toList_some, List.map_append, List.map_cons, List.map_nil, colP]
    have hfl : ∀ l : List Pic, flatAll (l.map fun P => PyData.tuple [.int (colP P)]) = true := fun l => by induction l with
      | nil => rfl
      | cons P l ih => simp [flatAll, flat, ih]
    refine DvAll.snoc ?_ (dvAll_stay (tup_upd f1') (hfl _) (dvAll_same s2 a1))
    exact .tup (tup_upd f1' _ _ f2) (.cons (.int _) .nil)
  · rintro H1 ⟨s1, vs, f1, l1, a1⟩
    rw [List.take_of_length_le (by rw [plains_len]; exact Nat.le_refl 10)] at a1
    have hF1 := hF.same s1
    walk_at "z"
    walk_at "zt"
    rename_i l0 nl0 H2 s2 f2
    walk_at "z"
    refine z_mulL f2 (by decide) (by decide) (sz1000 (by simp)) ?_
    walk_at "zn"
    rename_i dl hdl H3 s3 f3
    walk_at "z"
    refine ⟨_, rfl, by decide, by decide, fun tl htl => ?_⟩
    have s13 := s2.trans s3
    have s03 := s1.trans s13
    have hF3 := hF.same s03
    have f1' := s13 _ _ f1
    have nDn : ¬ D nl := hF.nd hnl
    have nDd : ¬ D dl := hF.nd (s1.free (s2.free hdl))
    have nDt : ¬ D tl := hF3.nd htl
    have d1 : nl ≠ dl := ne_of_none (s2 _ _ f1) hdl
    have d2 : nl ≠ tl := ne_of_none f1' htl
    have d3 : dl ≠ tl := ne_of_none f3 htl
    have htl0 : H tl = none := s03.free htl
    refine lc_range (lo := 0) (n := 10) (fun i H' => ∃ D' qs, Keep A.foot H3 H' ∧ FacesAt (He.ga K "Faces") H' p A D' (ps0 ++ qs) ∧ (∀ b, D' b → D b ∨ H3 b = none) ∧ ¬ D' tl ∧ H' tl = some (.lst ((plains i).map fun P => V.int (ix (ps0 ++ qs) P : Nat))) ∧ (∀ P ∈ plains i, P ∈ ps0 ++ qs) ∧ Base (bs ++ plains 10) (ps0 ++ qs))
      ⟨D, [], (Keep.refl _ _).setNew htl, by rw [List.append_nil]; exact hF3.same (Same.new htl), fun b h => .inl h, nDt, upd_same, fun P hP => by simp [plains] at hP, by rw [List.append_nil]; exact hB.mono fun B h => List.mem_append_left _ h⟩ ?_ ?_
    · rintro i H' hi ⟨D', qs, kp, hF4, dd, nt4, f4, m4, b4⟩
      have hi10 : i < 10 := hi
      have e0 : (0 : Int) + (i : Nat) = (i : Nat) := Int.zero_add _
      rw [e0]
      obtain ⟨dx4, ob4⟩ := hF4.ob
      have hl4 := b4.len hF4.inv.nd
      have hl4' : (bs ++ plains 10).length = bs.length + 10 := by rw [List.length_append, plains_len]
      walk_at "zw"
      walk_at "z"
      refine ⟨rfl, ?_⟩
      walk_at "z"
      refine z_methR ob4 noFaces_plain ?_
      walk_at "z"
      refine ⟨p, A, D', ps0 ++ qs, (i : Nat), rfl, hF4, by omega, fun no => absurd ⟨by omega, by omega⟩ no, fun _ H5 D5 kp5 hF5 g1 g2 => ?_⟩
      have hb5 : Base (bs ++ plains 10) (addP (ps0 ++ qs) (.p (i : Int))) := b4.add ⟨.p (i : Int), List.mem_append_right _ (List.mem_of_getElem? (plains_get hi10)), 0, by decide, (turn_zero _).symm⟩
      have hm5 := addP_mem (ps0 ++ qs) (.p (i : Int))
      obtain ⟨rs, ers⟩ := addP_ext (ps0 ++ qs) (.p (i : Int))
      rw [ers] at hF5 hb5 hm5 ⊢
      have f5 := kp5 _ _ f4 (hF4.ofFoot nt4)
      have nt5 : ¬ D5 tl := fresh_not f4 nt4 g2
      refine ⟨_, f5, szlt (by simp [plains_len]; omega), D5, qs ++ rs, (kp.trans kp5).setNew htl, by rw [← List.append_assoc]; exact hF5.keep (fun b o hb e => by rw [upd_ne (fun z => nt5 (by rw [← z]; exact hb))]; exact e), fun b hb => ?_, nt5, ?_, ?_, by rw [← List.append_assoc]; exact hb5⟩
      · rcases g2 b hb with z | z
        · exact dd b z
        · exact .inr (back_fresh hF4 kp z)
      · rw [upd_same, plains_succ, List.map_append, ← List.append_assoc]
        congr 2
        apply congrArg (· ++ _)
        apply List.map_congr_left
        intro P hP
        rw [ix_app (m4 P hP)]
      · intro P hP
        rw [plains_succ] at hP
        rw [← List.append_assoc]
        rcases List.mem_append.mp hP with h | h
        · exact List.mem_append_left _ (m4 P h)
        · rw [List.mem_singleton.mp h]; exact hm5
    · rintro H4 ⟨D4, qs4, kp4, hF4, dd4, nt4, f4, m4, b4⟩
      have st0 : StandG bs (He.ga K "Faces") H4 p A D4 (ps0 ++ qs4) nl dl tl (plains 10) ((plains 10).map fun P => Nd.pl (colP P)) := by
        refine ⟨hF4, ⟨by simp, ⟨vs, kp4 _ _ f1' (hF3.ofFoot nDn), ?_⟩, ?_⟩, ?_, f4, m4, b4, fresh_not f1' nDn dd4, fresh_not f3 nDd dd4, nt4, d1, d2, d3, by rw [plains_len]; exact Nat.le_refl _⟩
        · rw [List.map_map]
          refine dvAll_stay (kp4.tup hF3) ?_ (dvAll_same s13 a1)
          exact flat_nds ((plains 10).map fun P => Nd.pl (colP P)) ▸ (by rfl)
        · intro i P n h1 h2
          rw [List.getElem?_map, h1] at h2
          obtain rfl := Option.some.inj h2
          have hm := List.mem_of_getElem? h1
          simp only [plains, List.mem_map] at hm
          obtain ⟨k, _, rfl⟩ := hm
          rfl
        · rw [kp4 _ _ f3 (hF3.ofFoot nDd)]
          rfl
      have keep0 : Keep A.foot H H4 := s03.keep.trans kp4
      have fr0 : ∀ b, D4 b → D b ∨ H b = none := fun b hb => (dd4 b hb).imp id fun z => s03.free z
      have hcl4 : H4 cl = some (.lst (ms.map V.int)) := keep0 _ _ hcl (hF.ofFoot ncl)
      have c1 : cl ≠ nl := ne_of_none hcl hnl
      have c2 : cl ≠ dl := ne_of_none hcl (s1.free (s2.free hdl))
      have c3 : cl ≠ tl := ne_of_none hcl htl0
      have hfr : H nl = none ∧ H dl = none ∧ H tl = none := ⟨hnl, s1.free (s2.free hdl), htl0⟩
      have ncl4 : ¬ D4 cl := fresh_not hcl ncl fr0
      walk_at "z"
      refine ⟨cl, rfl, ⟨_, SqL.of hcl4⟩, for_list (K := K) (a := cl) (xs := ms.map V.int) (fun i σ H' => ∃ D' ps Ps nds x2 x6 x7 x8 x9 x10 x11 x12, ((∃ qs, ps = ps0 ++ qs) ∧ Ps = runP (ms.take i)) ∧ σ = [some (.ref p), some (.ref cl), x2, some (.ref nl), some (.ref dl), some (.ref tl), x6, x7, x8, x9, x10, x11, x12] ∧ StandG bs (He.ga K "Faces") H' p A D' ps nl dl tl Ps nds ∧
          Keep A.foot H H' ∧ (∀ b, D' b → D b ∨ H b = none) ∧ H' cl = some (.lst (ms.map V.int)) ∧ ¬ D' cl ∧ Ps.length ≤ 10 + i)
        ⟨D4, ps0 ++ qs4, plains 10, _, _, _, _, _, _, _, _, _, ⟨⟨qs4, rfl⟩, rfl⟩, rfl, st0, keep0, fr0, hcl4, ncl4, by rw [plains_len]; exact Nat.le_refl _⟩ (fun i σ H' _ ⟨_, _, _, _, _, _, _, _, _, _, _, _, _, _, _, _, _, h, _⟩ => SqL.of h) ?_ ?_⟩
      · rintro i x σ H' hi ⟨D', ps, Ps, nds, x2, x6, x7, x8, x9, x10, x11, x12, ⟨hps, hPs⟩, rfl, st, kp, fr, hcl', ncl', hlen⟩
        have hil : i < ms.length := by have := (List.getElem?_eq_some_iff.mp hi).1; rw [List.length_map] at this; exact this
        obtain ⟨z, rfl⟩ : ∃ z, x = .int z := by
          rw [List.getElem?_map] at hi
          cases e : ms[i]? with
          | none => rw [e] at hi; cases hi
          | some z => rw [e] at hi; exact ⟨z, (Option.some.inj hi).symm⟩
        have hiz : ms[i]? = some z := by
          rw [List.getElem?_map] at hi
          cases e : ms[i]? with
          | none => rw [e] at hi; cases hi
          | some y => rw [e] at hi; injection hi with hi; injection hi with hi; rw [hi]
        have hnext := run_next hiz
        rw [← hPs] at hnext
        obtain ⟨nle, ⟨ws, hws, hwd⟩, nis⟩ := st.N
        have hwl : ws.length = Ps.length := by rw [hwd.len, List.length_map, nle]
        walk_at "z"
        refine z_lenL (SqL.of hws) ?_
        walk_at "z"
        refine ⟨z, _, rfl, fun H5 fq xs s5 f5 a5 => ?_⟩
        have hrg := qu_rg (z := z) (m := (ws.length : Nat)) (by have := st.ten; omega)
        have hql := qu_len z (ws.length : Nat)
        generalize hqe : quI z (ws.length : Nat) = l at a5 hrg hql
        obtain ⟨a, b, c, d, rfl⟩ : ∃ a b c d, l = [a, b, c, d] := by
          match l, hql with
          | [a, b, c, d], _ => exact ⟨a, b, c, d, rfl⟩
        rw [hwl] at hrg hqe
        have st5 := st.same s5
        walk_at "z"
        refine ⟨nl, dl, fq, Ps, nds, xs, a, b, c, d, rfl, st5.N, st5.dp, f5, a5, hrg, fun H6 s6 => ?_⟩
        have st6 := st5.same s6
        have s56 := s5.trans s6
        walk_at "z"
        refine z_ite (fun c12 => ?_) (fun c12 => ?_)
        · walk_at "z"
          have hxl : xs.length = 4 := by rw [a5.len]; rfl
          have f6 := s6 _ _ f5
          have a6 := dvAll_same s6 a5
          refine ⟨fq, rfl, ⟨_, SqT.of f6⟩, fun L hL => ?_⟩
          have L1 : L ≠ nl := fun e => by obtain ⟨_, ⟨vs, hv, _⟩, _⟩ := st6.N; rw [← e, hL] at hv; cases hv
          have L2 : L ≠ dl := fun e => by have := st6.dp; rw [← e, hL] at this; cases this
          have L3 : L ≠ tl := fun e => by have := st6.td; rw [← e, hL] at this; cases this
          have nL6 : ¬ D' L := st6.F.nd hL
          refine lc_tup (K := K) (a := fq) (xs := xs) (fun i H' => ∃ qs D7, StandG bs (He.ga K "Faces") H' p A D7 (ps ++ qs) nl dl tl Ps nds ∧ Keep A.foot H6 H' ∧ (∀ b, D7 b → D' b ∨ H6 b = none) ∧ ¬ D7 L ∧ H' L = some (.lst (([a, b, c, d].take i).map fun x => V.int (ix (ps ++ qs) (atP Ps x) : Nat))) ∧ ∀ x ∈ [a, b, c, d].take i, atP Ps x ∈ ps ++ qs)
            ⟨[], D', by rw [List.append_nil]; exact st6.same (Same.new hL), (Keep.refl _ _).setNew hL, fun b h => .inl h, nL6, upd_same, fun x hx => by simp at hx⟩ (fun i H' _ ⟨_, _, _, kp7, _⟩ => SqT.of (kp7.tup st6.F _ _ f6)) ?_ ?_
          · rintro i v H7 hi ⟨qs, D7, st7, kp7, fr7, nL7, f7, m7⟩
            have a7 := dvAll_stay (kp7.tup st6.F) (flat_pairs _) a6
            obtain ⟨u, w, r, e1, rfl, hw, hr1, hr2, hu1, hu2⟩ := quads_get a7 hrg hi
            have hi4 : i < 4 := by have := (List.getElem?_eq_some_iff.mp hi).1; omega
            have hrm : r ∈ ps ++ qs := st7.mem r (List.mem_of_getElem? hr1)
            obtain ⟨dx7, ob7⟩ := st7.F.ob
            walk_at "zw"
            refine z_gTup (SqT.of hw) rfl ?_
            walk_at "z"
            refine ⟨rfl, ?_⟩
            walk_at "z"
            refine z_methR ob7 noFaces_turned ?_
            walk_at "z"
            refine z_ixL (SqL.of st7.td) (atI_of (n := u.1.toNat) (v := .int (ix (ps ++ qs) r : Nat)) (by rw [List.getElem?_map, hr1]; rfl) (by omega)) ?_
            walk_at "z"
            refine ⟨p, A, D7, ps ++ qs, bs ++ Ps, _, _, rfl, st7.F, st7.base, by rw [List.length_append]; omega, fun no => absurd ⟨(IsF.ix hrm).1, (IsF.ix hrm).lt⟩ no, fun P2 hP2 => ⟨fun no => absurd ⟨hu2.1, by omega⟩ no, fun _ qs2 hB8 H8 D8 kp8 hF8 g1 g2 hm8 => ?_⟩⟩
            obtain rfl := hP2.inj (IsF.ix hrm)
            have st8 := st7.after kp8 hF8 hB8 g2
            have f8 := kp8 _ _ f7 (st7.F.ofFoot nL7)
            have nL8 : ¬ D8 L := fresh_not f7 nL7 g2
            rw [List.append_assoc] at st8 hm8 ⊢
            refine ⟨_, f8, szlt (by simp; omega), qs ++ qs2, D8, st8.updL f8 nL8 L1 L2 L3, (kp7.trans kp8).setNew hL, fun b hb => ?_, nL8, ?_, ?_⟩
            · rcases g2 b hb with z1 | z1
              · exact fr7 b z1
              · exact .inr (back_fresh st7.F kp7 z1)
            · rw [upd_same, List.take_add_one, e1]
              congr 2
              rw [List.map_append]
              congr 1
              · apply List.map_congr_left
                intro x hx
                rw [← List.append_assoc, ix_app (m7 x hx)]
              · simp [hr2]
            · intro x hx
              rw [List.take_add_one, e1] at hx
              rcases List.mem_append.mp hx with z1 | z1
              · rw [← List.append_assoc]; exact List.mem_append_left _ (m7 x z1)
              · simp at z1
                rw [z1, hr2]; exact hm8
          · rintro H7 ⟨qs, D7, st7, kp7, fr7, nL7, f7, m7⟩
            rw [hxl] at f7 m7
            have ma := m7 a (by simp)
            have mb := m7 b (by simp)
            have mc := m7 c (by simp)
            have md := m7 d (by simp)
            have f7' : H7 L = some (.lst [V.int (ix (ps ++ qs) (atP Ps a) : Nat), V.int (ix (ps ++ qs) (atP Ps b) : Nat), V.int (ix (ps ++ qs) (atP Ps c) : Nat), V.int (ix (ps ++ qs) (atP Ps d) : Nat)]) := f7
            obtain ⟨dx7, ob7⟩ := st7.F.ob
            have hle := st7.base.len st7.F.inv.nd
            have hle' : (bs ++ Ps).length = bs.length + Ps.length := List.length_append
            walk_at "z"
            refine z_methR ob7 noFaces_four ?_
            walk_at "z"
            refine z_ixL (SqL.of f7') (by rfl) ?_
            walk_at "z"
            refine z_ixL (SqL.of f7') (by rfl) ?_
            walk_at "z"
            refine z_ixL (SqL.of f7') (by rfl) ?_
            walk_at "z"
            refine z_ixL (SqL.of f7') (by rfl) ?_
            walk_at "z"
            refine ⟨p, A, D7, ps ++ qs, _, _, _, _, rfl, st7.F, by omega, fun no => absurd ⟨⟨(IsF.ix ma).1, (IsF.ix ma).lt⟩, ⟨(IsF.ix mb).1, (IsF.ix mb).lt⟩, ⟨(IsF.ix mc).1, (IsF.ix mc).lt⟩, ⟨(IsF.ix md).1, (IsF.ix md).lt⟩⟩ no, fun PA PB PC PD hA hB hC hD => ?_⟩
            obtain rfl := hA.inj (IsF.ix ma)
            obtain rfl := hB.inj (IsF.ix mb)
            obtain rfl := hC.inj (IsF.ix mc)
            obtain rfl := hD.inj (IsF.ix md)
            refine ⟨fun deep => absurd c12 (by omega), fun _ H8 D8 kp8 hF8 g1 g2 => ?_⟩
            have hB8 : Base (bs ++ (Ps ++ [Pic.mk (atP Ps a) (atP Ps b) (atP Ps c) (atP Ps d)])) (addP (ps ++ qs) (Pic.mk (atP Ps a) (atP Ps b) (atP Ps c) (atP Ps d))) := (st7.base.mono fun B hB => by rw [← List.append_assoc]; exact List.mem_append_left _ hB).add ⟨_, by simp, 0, by decide, (turn_zero _).symm⟩
            have hM8 : Pic.mk (atP Ps a) (atP Ps b) (atP Ps c) (atP Ps d) ∈ addP (ps ++ qs) (Pic.mk (atP Ps a) (atP Ps b) (atP Ps c) (atP Ps d)) := addP_mem _ _
            obtain ⟨rs, ers⟩ := addP_ext (ps ++ qs) (Pic.mk (atP Ps a) (atP Ps b) (atP Ps c) (atP Ps d))
            rw [ers] at hF8 hB8 hM8 ⊢
            obtain ⟨mN, md8, mt8, mm8, mn1, mn2, mn3⟩ := st7.mid kp8 g2 rs
            obtain ⟨nle8, ⟨ws8, hws8, hwd8⟩, nis8⟩ := id mN
            have hwl8 : ws8.length = Ps.length := by rw [hwd8.len, List.length_map, nle8]
            have f68 : H8 fq = some (.tup xs) := (kp8.tup st7.F) _ _ ((kp7.tup st6.F) _ _ f6)
            have a68 : DvAll H8 xs ([a, b, c, d].map pairD) := dvAll_stay (kp8.tup st7.F) (flat_pairs _) (dvAll_stay (kp7.tup st6.F) (flat_pairs _) a6)
            have kpA : Keep A.foot H H8 := (kp.trans s56.keep).trans (kp7.trans kp8)
            have frA : ∀ b, D8 b → D b ∨ H b = none := fun b hb => by
              rcases g2 b hb with z1 | z1
              · rcases fr7 b z1 with z2 | z2
                · exact fr b z2
                · exact .inr (back_fresh st.F kp (s56.free z2))
              · exact .inr (back_fresh st.F kp (s56.free (back_fresh st7.F kp7 z1)))
            have hcl8 : H8 cl = some (.lst (ms.map V.int)) := kpA _ _ hcl (hF.ofFoot ncl)
            walk_at "z"
            refine z_ite (fun c0 => ?_) (fun c0 => ?_)
            · obtain ⟨u, w, r, e1, e2, hw, hr1, hr2, hu1, hu2⟩ := quads_get a68 hrg (k := 0) (v := xs[0]'(by omega)) (List.getElem?_eq_getElem (by omega))
              obtain rfl : a = u := Option.some.inj e1
              walk_at "z"
              refine z_ixT (SqT.of f68) (atI_of (n := 0) (v := .ref w) (by rw [List.getElem?_eq_getElem (by omega), e2]) (by rfl)) ?_
              walk_at "z"
              refine z_ixT (SqT.of hw) (by rfl) ?_
              obtain ⟨ws9, nq, ys, n, h1, h2, h3, h4, h5, h6, h7⟩ := mN.get hr1
              refine z_ixL (SqL.of h1) (atI_of h3 (by omega)) ?_
              have hall : atP Ps a = atP Ps b ∧ atP Ps b = atP Ps c ∧ atP Ps c = atP Ps d ∧ (atP Ps a).depth = 0 := by
                refine Decidable.byContradiction fun z => ?_
                have e9 : Pic.mk (atP Ps a) (atP Ps b) (atP Ps c) (atP Ps d) = .q (atP Ps a) (atP Ps b) (atP Ps c) (atP Ps d) := if_neg z
                rw [e9] at c0
                simp only [Pic.depth] at c0
                omega
              have e9 : Pic.mk (atP Ps a) (atP Ps b) (atP Ps c) (atP Ps d) = atP Ps a := if_pos hall
              obtain ⟨cc, ecc⟩ := depth_zero hall.2.2.2
              have er : r = .p cc := by
                cases r with
                | p c' => rw [hr2] at ecc; exact ecc
                | q _ _ _ _ => rw [hr2] at ecc; cases ecc
              have hn : NdIs Ps (Pic.mk (atP Ps a) (atP Ps b) (atP Ps c) (atP Ps d)) n := by
                rw [e9, ecc, ← er]
                exact h5
              have hv := h6
              walk_at "z"
              refine z_tyL (SqL.of hws8) ?_
              walk_at "z"
              refine z_app hws8 (szlt (by omega)) ?_
              walk_at "z"
              have x1 : ∀ o, upd H8 nl o dl = some (.lst (Ps.map fun P => V.int (P.depth : Nat))) := fun o => by rw [upd_ne st7.d1.symm]; exact md8
              refine z_tyL (SqL.of (x1 _)) ?_
              walk_at "z"
              refine z_app (x1 _) (by rw [List.length_map]; exact szlt (by omega)) ?_
              walk_at "z"
              have x2 : ∀ o o', upd (upd H8 nl o) dl o' tl = some (.lst (Ps.map fun P => V.int (ix (ps ++ qs ++ rs) P : Nat))) := fun o o' => by rw [upd_ne st7.d3.symm, upd_ne st7.d2.symm]; exact mt8
              refine z_tyL (SqL.of (x2 _ _)) ?_
              walk_at "z"
              refine z_app (x2 _ _) (by rw [List.length_map]; exact szlt (by omega)) ?_
              have stF := StandG.push hF8 mN md8 mt8 mm8 hB8 mn1 mn2 mn3 st7.d1 st7.d2 st7.d3 st7.ten hM8 hn hv hws8
              refine ⟨D8, _, _, _, _, _, _, _, _, _, _, _, ⟨by obtain ⟨q0, rfl⟩ := hps; exact ⟨q0 ++ qs ++ rs, by simp [List.append_assoc]⟩, by rw [hnext, step_yes hqe (by omega)]⟩, rfl, stF, ?_, frA, ?_, fresh_not hcl ncl frA, by simp; omega⟩
              · exact ((kpA.setNew hfr.1).setNew hfr.2.1).setNew hfr.2.2
              · rw [upd_ne c3, upd_ne c2, upd_ne c1]; exact hcl8
            · have hall : ¬ (atP Ps a = atP Ps b ∧ atP Ps b = atP Ps c ∧ atP Ps c = atP Ps d ∧ (atP Ps a).depth = 0) := fun z => by
                have e9 : Pic.mk (atP Ps a) (atP Ps b) (atP Ps c) (atP Ps d) = atP Ps a := if_pos z
                rw [e9] at c0
                omega
              have hn : NdIs Ps (Pic.mk (atP Ps a) (atP Ps b) (atP Ps c) (atP Ps d)) (.qu [a, b, c, d]) := ⟨a, b, c, d, rfl, if_neg hall, hrg⟩
              have hv : Dv H8 (.ref fq) (Nd.qu [a, b, c, d]).data := .tup f68 a68
              walk_at "z"
              refine z_tyL (SqL.of hws8) ?_
              walk_at "z"
              refine z_app hws8 (szlt (by omega)) ?_
              walk_at "z"
              have x1 : ∀ o, upd H8 nl o dl = some (.lst (Ps.map fun P => V.int (P.depth : Nat))) := fun o => by rw [upd_ne st7.d1.symm]; exact md8
              refine z_tyL (SqL.of (x1 _)) ?_
              walk_at "z"
              refine z_app (x1 _) (by rw [List.length_map]; exact szlt (by omega)) ?_
              walk_at "z"
              have x2 : ∀ o o', upd (upd H8 nl o) dl o' tl = some (.lst (Ps.map fun P => V.int (ix (ps ++ qs ++ rs) P : Nat))) := fun o o' => by rw [upd_ne st7.d3.symm, upd_ne st7.d2.symm]; exact mt8
              refine z_tyL (SqL.of (x2 _ _)) ?_
              walk_at "z"
              refine z_app (x2 _ _) (by rw [List.length_map]; exact szlt (by omega)) ?_
              have stF := StandG.push hF8 mN md8 mt8 mm8 hB8 mn1 mn2 mn3 st7.d1 st7.d2 st7.d3 st7.ten hM8 hn hv hws8
              refine ⟨D8, _, _, _, _, _, _, _, _, _, _, _, ⟨by obtain ⟨q0, rfl⟩ := hps; exact ⟨q0 ++ qs ++ rs, by simp [List.append_assoc]⟩, by rw [hnext, step_yes hqe (by omega)]⟩, rfl, stF, ?_, frA, ?_, fresh_not hcl ncl frA, by simp; omega⟩
              · exact ((kpA.setNew hfr.1).setNew hfr.2.1).setNew hfr.2.2
              · rw [upd_ne c3, upd_ne c2, upd_ne c1]; exact hcl8
        · walk_at "z"
          exact ⟨D', ps, Ps, nds, _, _, _, _, _, _, _, _, ⟨hps, by rw [hnext, step_no hqe (by omega)]⟩, rfl, st6, kp.trans s56.keep, fr, s56 _ _ hcl', ncl', by omega⟩
      · rintro σ H' ⟨D', ps, Ps, nds, x2, x6, x7, x8, x9, x10, x11, x12, ⟨⟨qs, rfl⟩, rfl⟩, rfl, st, kp, fr, hcl', ncl', hlen⟩
        rw [List.length_map, List.take_of_length_le (Nat.le_refl _)] at st hlen
        walk_at "z"
        walk_at "zt"
        rename_i T nT H9 s9 f9
        exact q H9 T nl dl tl D' qs nds (kp.trans s9.keep) fr f9 (st.same s9) hlen hfr
def minL : Nat → (Nat → Nat) → Nat
  | 0, f => f 0
  | n + 1, f => min (minL n f) (f (n + 1))
theorem minL_le {f : Nat → Nat} : ∀ {n i : Nat}, i ≤ n → minL n f ≤ f i
  | 0, i, h => by obtain rfl : i = 0 := by omega
                  exact Nat.le_refl _
  | n + 1, i, h => by
    simp only [minL]
    by_cases e : i = n + 1
    · subst e; omega
    · have := minL_le (f := f) (n := n) (i := i) (by omega)
      omega
theorem minL_at {f : Nat → Nat} : ∀ n : Nat, ∃ i, i ≤ n ∧ minL n f = f i
  | 0 => ⟨0, Nat.le_refl _, rfl⟩
  | n + 1 => by
    obtain ⟨i, h1, h2⟩ := minL_at (f := f) n
    simp only [minL]
    by_cases e : minL n f ≤ f (n + 1)
    · exact ⟨i, by omega, by omega⟩
    · exact ⟨n + 1, Nat.le_refl _, by omega⟩
theorem minL_ext {f g : Nat → Nat} : ∀ {n : Nat}, (∀ i, i ≤ n → f i = g i) → minL n f = minL n g
  | 0, h => h 0 (Nat.le_refl _)
  | n + 1, h => by
    simp only [minL]
    rw [minL_ext (f := f) (g := g) (n := n) fun i hi => h i (by omega), h (n + 1) (Nat.le_refl _)]
/-- the least number of the eight turned pictures -/
def kindN (ps : List Pic) (P : Pic) : Nat := minL 7 fun t => ix ps (P.turn (t : Nat))
def AllT (ps : List Pic) (P : Pic) : Prop := ∀ t : Int, 0 ≤ t → t < 8 → P.turn t ∈ ps
theorem AllT.app {ps qs : List Pic} {P : Pic} (h : AllT ps P) : AllT (ps ++ qs) P := fun t a b => List.mem_append_left _ (h t a b)
theorem kindN_app {ps qs : List Pic} {P : Pic} (h : AllT ps P) : kindN (ps ++ qs) P = kindN ps P := minL_ext fun i hi => ix_app (h i (by omega) (by omega))
theorem AllT.turn {ps : List Pic} {P : Pic} (h : AllT ps P) {u : Int} (u0 : 0 ≤ u) (u8 : u < 8) : AllT ps (P.turn u) := fun t a b => by
  rw [turn_turn u0 u8 a b]
  exact h _ (after_rg u0 u8 a b).1 (after_rg u0 u8 a b).2
theorem turn_of {P O : Pic} {t : Int} (t0 : 0 ≤ t) (t8 : t < 8) (e : P.turn t = O) : ∃ u : Int, (0 ≤ u ∧ u < 8) ∧ O.turn u = P := by
  obtain ⟨b, b0, b8, hb⟩ := turn_back t0 t8
  exact ⟨b, ⟨b0, b8⟩, by rw [← e]; exact hb P⟩
theorem kindN_mem (ps : List Pic) (P : Pic) : ∃ t : Int, (0 ≤ t ∧ t < 8) ∧ kindN ps P = ix ps (P.turn t) := by
  obtain ⟨i, h1, h2⟩ := minL_at (f := fun t : Nat => ix ps (P.turn (t : Nat))) 7
  exact ⟨(i : Nat), by omega, h2⟩
theorem kindN_le (ps : List Pic) (P : Pic) {t : Int} (t0 : 0 ≤ t) (t8 : t < 8) : kindN ps P ≤ ix ps (P.turn t) := by
  have h := minL_le (f := fun t : Nat => ix ps (P.turn (t : Nat))) (n := 7) (i := t.toNat) (by omega)
  have e : ((t.toNat : Nat) : Int) = t := Int.toNat_of_nonneg t0
  simp only [e] at h
  exact h
theorem kindN_turn (ps : List Pic) {P : Pic} {u : Int} (u0 : 0 ≤ u) (u8 : u < 8) : kindN ps (P.turn u) = kindN ps P := by
  have one : ∀ (P : Pic) (u : Int), 0 ≤ u → u < 8 → kindN ps P ≤ kindN ps (P.turn u) := fun P u u0 u8 => by
    obtain ⟨t, ht, e⟩ := kindN_mem ps (P.turn u)
    rw [e, turn_turn u0 u8 ht.1 ht.2]
    exact kindN_le ps P (after_rg u0 u8 ht.1 ht.2).1 (after_rg u0 u8 ht.1 ht.2).2
  obtain ⟨b, ⟨b0, b8⟩, hb⟩ := turn_of u0 u8 (rfl : P.turn u = P.turn u)
  have h1 := one P u u0 u8
  have h2 := one (P.turn u) b b0 b8
  rw [hb] at h2
  omega
theorem kindN_eq {ps : List Pic} {P O : Pic} (hP : AllT ps P) (hO : AllT ps O) (e : kindN ps P = kindN ps O) : ∃ t : Int, (0 ≤ t ∧ t < 8) ∧ P.turn t = O := by
  obtain ⟨a, ha, ea⟩ := kindN_mem ps P
  obtain ⟨b, hb, eb⟩ := kindN_mem ps O
  have h := ix_inj (hP a ha.1 ha.2) (hO b hb.1 hb.2) (by omega)
  obtain ⟨c, ⟨c0, c8⟩, hc⟩ := turn_of hb.1 hb.2 (rfl : O.turn b = O.turn b)
  exact ⟨afterI a c, after_rg ha.1 ha.2 c0 c8, by rw [← turn_turn ha.1 ha.2 c0 c8, h, hc]⟩
def spKind (C N : Addr) : Sp := fun vs H Q E => ∃ p A D ps bs, ∃ f : Int, vs = [.ref p, .int f] ∧ FacesAt C H p A D ps ∧ Base bs ps ∧ bs.length ≤ 10000 ∧ (¬ (0 ≤ f ∧ f < ps.length) → E (.ref N) none H) ∧
  ∀ P, IsF ps f P → AfterX C H p A D bs ps fun ps' H' => AllT ps' P → Q (.int (kindN ps' P : Nat)) H'
abbrev nFaces_kind : List Str := ["self", "face", "turning"]
abbrev pFaces_kind : List Str := ["self", "face"]
theorem scFaces_kind : FnScope nFaces_kind pFaces_kind (defScope sFaces_kind) := ⟨rfl, rfl, rfl, by decide +kernel, rfl, by decide +kernel, by decide +kernel⟩
theorem ok_Faces_kind {P : Program} {w : World} {K : PySem.W.Frag} {mg : Str → Option Value} {base : Heap} (T : Tx w K mg) : Fk P w K mg base 16 (He.ma K (He.ga K "Faces") "kind") pFaces_kind (spKind (He.ga K "Faces") (He.ga K "NoFace")) := by
  have GFaces_need := ok_Faces_need (P := P) (w := w) (base := base) T
  have GFaces_whirled := ok_Faces_whirled (P := P) (w := w) (base := base) T 13
  refine Fk.mk' T.fFaces_kind scFaces_kind (fun _ _ _ _ _ _ us hl => match us, hl with | [_, _], _ => rfl) (by
  intro vs H Q E h
  repeat (first | (obtain ⟨h1, _⟩ := h; subst h1; rfl) | (obtain ⟨_, h⟩ := h))) (fun cdv A outer s H vs Q E hr h => ?_)
  have hu := hu_of hr
  have hu64 := hr.units
  refine ⟨_, (pss_cons (ps_expr (q_meth (pv 0) T.cFaces T.mFaces_need GFaces_need (hr.mono (by omega)) passX (pa_cons (pv 1) pa_nil)))
  (pss_one (ps_ret (pe_callB (k_min K rfl) (by rfl) T.umin (by decide +kernel) (pa_cons (pe_lc (own := [("turning", 2)]) (g := gName 2) rfl scFaces_kind.nd (pi_range1 (by rfl) T.urange (pa_cons pe_int pa_nil)) (blkOk_by (own := [("turning", 2)]) (N := nFaces_kind) (sc := defScope sFaces_kind) (by decide +kernel)) (fun _ _ _ _ _ => pg_name (i := 2) scFaces_kind.nd rfl (Or.inl rfl)) (fun _ _ _ _ _ => pts_nil) (fun _ _ _ _ _ => (q_meth (pv 0) T.cFaces T.mFaces_whirled GFaces_whirled (hr.mono (by omega)) passL (pa_cons (pv 1) (pa_cons (pv 2) pa_nil))))) pa_nil))))), ?_⟩
  try dsimp only [cxOf]
  obtain ⟨p, A, D, ps, bs, f, rfl, hF, hB, hbs, e, q⟩ := h
  obtain ⟨dx, ob⟩ := hF.ob
  walk_at "z"
  refine z_methR ob noFaces_need ?_
  walk_at "z"
  refine ⟨p, A, D, ps, f, rfl, hF, fun c => ?_, e⟩
  obtain ⟨P, hP⟩ := IsF.ex c.1 c.2
  have hd12 := ok_depth (hF.inv.ok P hP.mem)
  walk_at "z"
  refine ⟨_, rfl, by decide, by decide, fun L hL => ?_⟩
  have nL : ¬ D L := hF.nd hL
  refine lc_range (lo := 0) (n := 8) (fun i H' => ∃ qs D', Keep A.foot H H' ∧ FacesAt (He.ga K "Faces") H' p A D' (ps ++ qs) ∧ Base bs (ps ++ qs) ∧ (∀ b, D b → D' b) ∧ (∀ b, D' b → D b ∨ H b = none) ∧ ¬ D' L ∧
      H' L = some (.lst (((List.range i).map fun t : Nat => ((ix (ps ++ qs) (P.turn (t : Nat)) : Nat) : Int)).map V.int)) ∧ ∀ t : Nat, t < i → P.turn (t : Nat) ∈ ps ++ qs)
    ⟨[], D, (Keep.refl _ _).setNew hL, by rw [List.append_nil]; exact hF.same (Same.new hL), by rw [List.append_nil]; exact hB, fun _ h => h, fun b h => .inl h, nL, upd_same, fun t ht => by omega⟩ ?_ ?_
  · rintro i H' hi ⟨qs, D', kp, hF2, hB2, d1, d2, nL2, fL, hm⟩
    obtain ⟨dx2, ob2⟩ := hF2.ob
    have e0 : (0 : Int) + (i : Nat) = (i : Nat) := Int.zero_add _
    walk_at "zw"
    walk_at "z"
    refine ⟨rfl, ?_⟩
    walk_at "z"
    rw [e0]
    refine z_methR ob2 noFaces_whirled ?_
    walk_at "z"
    refine ⟨p, A, D', ps ++ qs, bs, f, (i : Nat), P, rfl, hF2, hP.app, by omega, by omega, hB2, hbs, fun qs2 hB3 H3 D3 kp3 hF3 e1 e2 hm3 => ?_⟩
    have f3 := kp3 _ _ fL (hF2.ofFoot nL2)
    have nL3 : ¬ D3 L := fresh_not fL nL2 e2
    rw [List.append_assoc] at hF3 hB3 hm3 ⊢
    refine ⟨_, f3, szlt (by simp; omega), qs ++ qs2, D3, (kp.trans kp3).setNew hL, hF3.keep fun b o hb e => by rw [upd_ne (fun z => nL3 (by rw [← z]; exact hb))]; exact e, hB3, fun b hb => e1 b (d1 b hb), fun b hb => ?_, nL3, ?_, ?_⟩
    · rcases e2 b hb with z | z
      · exact d2 b z
      · exact .inr (back_fresh hF2 kp z)
    · rw [upd_same, List.range_succ, List.map_append, List.map_append]
      congr 2
      congr 1
      rw [List.map_map, List.map_map]
      apply List.map_congr_left
      intro t ht
      simp only [Function.comp]
      rw [← List.append_assoc, ix_app (hm t (by simpa using ht))]
    · intro t ht
      by_cases e9 : t = i
      · subst e9; exact hm3
      · rw [← List.append_assoc]; exact List.mem_append_left _ (hm t (by omega))
  · rintro H' ⟨qs, D', kp, hF2, hB2, d1, d2, nL2, fL, hm⟩
    walk_at "z"
    have all : AllT (ps ++ qs) P := fun t t0 t8 => by
      have := hm t.toNat (by omega)
      rw [Int.toNat_of_nonneg t0] at this
      exact this
    refine z_min (SqL.of fL) (by simp) fun m hm1 hm2 => ?_
    have em : m = ((kindN (ps ++ qs) P : Nat) : Int) := by
      simp only [List.mem_map, List.mem_range] at hm1
      obtain ⟨t, ht, rfl⟩ := hm1
      have h1 := kindN_le (ps ++ qs) P (t := (t : Nat)) (by omega) (by omega)
      obtain ⟨u, hu, e⟩ := kindN_mem (ps ++ qs) P
      have h2 := hm2 ((ix (ps ++ qs) (P.turn u) : Nat) : Int) (by
        simp only [List.mem_map, List.mem_range]
        exact ⟨u.toNat, by omega, by rw [Int.toNat_of_nonneg hu.1]⟩)
      omega
    rw [em]
    exact q P hP qs hB2 H' D' kp hF2 d1 d2 all
def spDepth (C N : Addr) : Sp := fun vs H Q E => ∃ p A D ps, ∃ f : Int, vs = [.ref p, .int f] ∧ FacesAt C H p A D ps ∧ (∀ P, IsF ps f P → Q (.int (P.depth : Nat)) H) ∧ (¬ (0 ≤ f ∧ f < ps.length) → E (.ref N) none H)
abbrev nFaces_depth : List Str := ["self", "face"]
abbrev pFaces_depth : List Str := ["self", "face"]
theorem scFaces_depth : FnScope nFaces_depth pFaces_depth (defScope sFaces_depth) := ⟨rfl, rfl, rfl, by decide +kernel, rfl, by decide +kernel, by decide +kernel⟩
theorem ok_Faces_depth {P : Program} {w : World} {K : PySem.W.Frag} {mg : Str → Option Value} {base : Heap} (T : Tx w K mg) : Fk P w K mg base 2 (He.ma K (He.ga K "Faces") "depth") pFaces_depth (spDepth (He.ga K "Faces") (He.ga K "NoFace")) := by
  have GFaces_need := ok_Faces_need (P := P) (w := w) (base := base) T
  refine Fk.mk' T.fFaces_depth scFaces_depth (fun _ _ _ _ _ _ us hl => match us, hl with | [_, _], _ => rfl) (by
  intro vs H Q E h
  repeat (first | (obtain ⟨h1, _⟩ := h; subst h1; rfl) | (obtain ⟨_, h⟩ := h))) (fun cdv A outer s H vs Q E hr h => ?_)
  have hu := hu_of hr
  have hu64 := hr.units
  refine ⟨_, (pss_cons (ps_expr (q_meth (pv 0) T.cFaces T.mFaces_need GFaces_need (hr.mono (by omega)) passX (pa_cons (pv 1) pa_nil)))
  (pss_one (ps_ret (k_ix K (k_fld K (pv 0) rfl) (pv 1) (fun _ _ => rfl))))), ?_⟩
  try dsimp only [cxOf]
  obtain ⟨p, A, D, ps, f, rfl, hF, q, e⟩ := h
  obtain ⟨dx, ob⟩ := hF.ob
  walk_at "z"
  refine z_methR ob noFaces_need ?_
  walk_at "z"
  refine ⟨p, A, D, ps, f, rfl, hF, fun c => ?_, e⟩
  obtain ⟨P, hP⟩ := IsF.ex c.1 c.2
  walk_at "z"
  refine z_fldR ob T.cFaces T.aFaces_depths lkFaces_depths ?_
  walk_at "z"
  exact z_ixL (SqL.of hF.depths) (FacesAt.depthAt hP) (q P hP)
def spThere (C : Addr) : Sp := fun vs H Q _ => ∃ p A D ps, ∃ n : Int, vs = [.ref p, .int n] ∧ FacesAt C H p A D ps ∧ Q (.bl (decide (0 ≤ n ∧ n < ps.length))) H
abbrev n_law_there : List Str := ["_law_faces", "_law_number", "_law_there_here"]
abbrev p_law_there : List Str := ["_law_faces", "_law_number"]
theorem sc_law_there : FnScope n_law_there p_law_there (defScope s_law_there) := ⟨rfl, rfl, rfl, by decide +kernel, rfl, by decide +kernel, by decide +kernel⟩
theorem ok__law_there {P : Program} {w : World} {K : PySem.W.Frag} {mg : Str → Option Value} {base : Heap} (T : Tx w K mg) : Fk P w K mg base 3 (He.ga K "_law_there") p_law_there (spThere (He.ga K "Faces")) := by
  have GFaces_depth := ok_Faces_depth (P := P) (w := w) (base := base) T
  refine Fk.mk' T.f_law_there sc_law_there (fun _ _ _ _ _ _ us hl => match us, hl with | [_, _], _ => rfl) (by
  intro vs H Q E h
  repeat (first | (obtain ⟨h1, _⟩ := h; subst h1; rfl) | (obtain ⟨_, h⟩ := h))) (fun cdv A outer s H vs Q E hr h => ?_)
  have hu := hu_of hr
  have hu64 := hr.units
  refine ⟨_, (pss_cons (ps_set (i := 2) sc_law_there.nd rfl (Or.inl rfl) pe_bl)
  (pss_cons (ps_try_only rfl rfl ⟨rfl, by decide, .inl T.gNoFace⟩ takesX (fun W pn xe tk hpo => (pss_one (ps_expr (q_methS (pv 0) T.cFaces T.mFaces_depth GFaces_depth (hr.mono (by omega)) (fun σ => passAt tk σ) (by exact (pa_cons (pv 1) pa_nil)))))) (fun a oe cls d pn _ _ => (pss_one (ps_set (i := 2) sc_law_there.nd rfl (Or.inl rfl) pe_bl))))
  (pss_one (ps_ret (pv 2))))), ?_⟩
  try dsimp only [cxOf]
  obtain ⟨p, A, D, ps, n, rfl, hF, q⟩ := h
  obtain ⟨dx, ob⟩ := hF.ob
  walk_at "z"
  refine z_methR ob noFaces_depth ?_
  walk_at "z"
  refine ⟨p, A, D, ps, n, rfl, hF, fun P hP => ?_, fun no => ?_⟩
  · walk_at "z"
    rw [decide_eq_true ⟨hP.1, hP.lt⟩] at q
    exact q
  · refine ⟨true, T.xNoFace_NoFace, fun _ a _ => ?_, fun z => by cases z⟩
    walk_at "z"
    rw [decide_eq_false no] at q
    exact q
def quartersI (ps : List Pic) (f : Int) (P : Pic) : List Int := if P.depth = 0 then [f, f, f, f] else nodeOf ps P
def spQuarters (C N : Addr) : Sp := fun vs H Q E => ∃ p A D ps, ∃ f : Int, vs = [.ref p, .int f] ∧ FacesAt C H p A D ps ∧ (∀ P, IsF ps f P → ∀ H' a, Same H H' → H' a = some (.tup ((quartersI ps f P).map V.int)) → Q (.ref a) H') ∧ (¬ (0 ≤ f ∧ f < ps.length) → E (.ref N) none H)
abbrev nFaces_quarters : List Str := ["self", "face"]
abbrev pFaces_quarters : List Str := ["self", "face"]
theorem scFaces_quarters : FnScope nFaces_quarters pFaces_quarters (defScope sFaces_quarters) := ⟨rfl, rfl, rfl, by decide +kernel, rfl, by decide +kernel, by decide +kernel⟩
theorem ok_Faces_quarters {P : Program} {w : World} {K : PySem.W.Frag} {mg : Str → Option Value} {base : Heap} (T : Tx w K mg) : Fk P w K mg base 2 (He.ma K (He.ga K "Faces") "quarters") pFaces_quarters (spQuarters (He.ga K "Faces") (He.ga K "NoFace")) := by
  have GFaces_need := ok_Faces_need (P := P) (w := w) (base := base) T
  refine Fk.mk' T.fFaces_quarters scFaces_quarters (fun _ _ _ _ _ _ us hl => match us, hl with | [_, _], _ => rfl) (by
  intro vs H Q E h
  repeat (first | (obtain ⟨h1, _⟩ := h; subst h1; rfl) | (obtain ⟨_, h⟩ := h))) (fun cdv A outer s H vs Q E hr h => ?_)
  have hu := hu_of hr
  have hu64 := hr.units
  refine ⟨_, (pss_cons (ps_expr (q_meth (pv 0) T.cFaces T.mFaces_need GFaces_need (hr.mono (by omega)) passX (pa_cons (pv 1) pa_nil)))
  (pss_cons (ps_if (pt_cmpR (k_eq K hu64) (k_ix K (k_fld K (pv 0) rfl) (pv 1) (fun _ _ => rfl)) pe_int (nomark _)) (pss_one (ps_ret (pe_tup (pa_cons (pv 1) (pa_cons (pv 1) (pa_cons (pv 1) (pa_cons (pv 1) pa_nil))))))) pss_nil)
  (pss_one (ps_ret (k_ix K (k_fld K (pv 0) rfl) (pv 1) (fun _ _ => rfl)))))), ?_⟩
  try dsimp only [cxOf]
  obtain ⟨p, A, D, ps, f, rfl, hF, q, e⟩ := h
  obtain ⟨dx, ob⟩ := hF.ob
  obtain ⟨ns, hn, n2, n3⟩ := hF.nodes
  walk_at "z"
  refine z_methR ob noFaces_need ?_
  walk_at "z"
  refine ⟨p, A, D, ps, f, rfl, hF, fun c => ?_, e⟩
  obtain ⟨P, hP⟩ := IsF.ex c.1 c.2
  walk_at "z"
  refine z_fldR ob T.cFaces T.aFaces_depths lkFaces_depths ?_
  walk_at "z"
  refine z_ixL (SqL.of hF.depths) (FacesAt.depthAt hP) ?_
  walk_at "z"
  have qq := q P hP
  unfold quartersI at qq
  refine z_ite (fun c => ?_) (fun c => ?_)
  · rw [if_pos (by omega)] at qq
    walk_at "z"
    refine ⟨sz1000 (by simp), fun a ha => ?_⟩
    exact qq _ _ (Same.new ha) upd_same
  · rw [if_neg (by omega)] at qq
    walk_at "z"
    refine z_fldR ob T.cFaces T.aFaces_nodes lkFaces_nodes ?_
    walk_at "z"
    have hlt : f.toNat < ns.length := by omega
    obtain ⟨da, ha⟩ := n3 f.toNat _ P (List.getElem?_eq_getElem hlt) hP.2
    refine z_ixL (SqL.of hn) (atI_of (n := f.toNat) (v := .ref (ns[f.toNat])) (by rw [List.getElem?_map, List.getElem?_eq_getElem hlt]; rfl) (by omega)) ?_
    exact qq _ _ (Same.refl H) ha
theorem quarters_get {ps : List Pic} {f : Int} {P : Pic} (nd : ps.Nodup) (hf : IsF ps f P) (hin : PartsIn ps P) {i : Nat} (hi : i < 4) : ∃ g, (quartersI ps f P)[i]? = some g ∧ IsF ps g (P.quart i) := by
  unfold quartersI
  cases P with
  | p c =>
    rw [if_pos (show (Pic.p c).depth = 0 from rfl)]
    refine ⟨f, ?_, hf⟩
    match i, hi with
    | 0, _ => rfl
    | 1, _ => rfl
    | 2, _ => rfl
    | 3, _ => rfl
  | q a b c d =>
    rw [if_neg (show ¬ (Pic.q a b c d).depth = 0 by simp [Pic.depth])]
    match i, hi with
    | 0, _ => exact ⟨_, rfl, IsF.ix (hin a (by simp [Pic.parts]))⟩
    | 1, _ => exact ⟨_, rfl, IsF.ix (hin b (by simp [Pic.parts]))⟩
    | 2, _ => exact ⟨_, rfl, IsF.ix (hin c (by simp [Pic.parts]))⟩
    | 3, _ => exact ⟨_, rfl, IsF.ix (hin d (by simp [Pic.parts]))⟩
theorem quarters_len (ps : List Pic) (f : Int) (P : Pic) : (quartersI ps f P).length = 4 := by
  unfold quartersI
  cases P with
  | p c => rw [if_pos (show (Pic.p c).depth = 0 from rfl)]; rfl
  | q a b c d => rw [if_neg (show ¬ (Pic.q a b c d).depth = 0 by simp [Pic.depth])]; rfl
def spApart (C N : Addr) : Sp := fun vs H Q E => ∃ p A D ps, ∃ f g : Int, vs = [.ref p, .int f, .int g] ∧ FacesAt C H p A D ps ∧ (¬ ((0 ≤ f ∧ f < ps.length) ∧ (0 ≤ g ∧ g < ps.length)) → E (.ref N) none H) ∧ ∀ P R, IsF ps f P → IsF ps g R →
  (P = R → Q .non H) ∧ (P ≠ R → ∀ (x y : Int) H' t, Same H H' → H' t = some (.tup [.int (max P.depth R.depth : Nat), .int x, .int y]) → 0 ≤ x ∧ x < 2 ^ (max P.depth R.depth) → 0 ≤ y ∧ y < 2 ^ (max P.depth R.depth) → P.cell (max P.depth R.depth) x y ≠ R.cell (max P.depth R.depth) x y → Q (.ref t) H')
abbrev nFaces_apart : List Str := ["self", "one", "other", "deep", "size", "x", "y", "pairs", "k", "at"]
abbrev pFaces_apart : List Str := ["self", "one", "other"]
theorem scFaces_apart : FnScope nFaces_apart pFaces_apart (defScope sFaces_apart) := ⟨rfl, rfl, rfl, by decide +kernel, rfl, by decide +kernel, by decide +kernel⟩
theorem ok_Faces_apart {P : Program} {w : World} {K : PySem.W.Frag} {mg : Str → Option Value} {base : Heap} (T : Tx w K mg) : Fk P w K mg base 3 (He.ma K (He.ga K "Faces") "apart") pFaces_apart (spApart (He.ga K "Faces") (He.ga K "NoFace")) := by
  have GFaces_need := ok_Faces_need (P := P) (w := w) (base := base) T
  have GFaces_quarters := ok_Faces_quarters (P := P) (w := w) (base := base) T
  refine Fk.mk' T.fFaces_apart scFaces_apart (fun _ _ _ _ _ _ us hl => match us, hl with | [_, _, _], _ => rfl) (by
  intro vs H Q E h
  repeat (first | (obtain ⟨h1, _⟩ := h; subst h1; rfl) | (obtain ⟨_, h⟩ := h))) (fun cdv A outer s H vs Q E hr h => ?_)
  have hu := hu_of hr
  have hu64 := hr.units
  refine ⟨_, (pss_cons (ps_expr (q_meth (pv 0) T.cFaces T.mFaces_need GFaces_need (hr.mono (by omega)) passX (pa_cons (pv 1) pa_nil)))
  (pss_cons (ps_expr (q_meth (pv 0) T.cFaces T.mFaces_need GFaces_need (hr.mono (by omega)) passX (pa_cons (pv 2) pa_nil)))
  (pss_cons (ps_if (pt_cmpR (k_eq K hu64) (pv 1) (pv 2) (nomark _)) (pss_one (ps_ret pe_non)) pss_nil)
  (pss_cons (ps_set (i := 3) scFaces_apart.nd rfl (Or.inl rfl) (pe_callB (call_max2 rfl) (by rfl) T.umax (by decide +kernel) (pa_cons (k_ix K (k_fld K (pv 0) rfl) (pv 1) (fun _ _ => rfl)) (pa_cons (k_ix K (k_fld K (pv 0) rfl) (pv 2) (fun _ _ => rfl)) pa_nil))))
  (pss_cons (ps_set (i := 4) scFaces_apart.nd rfl (Or.inl rfl) (pe_op op_shl pe_int (pv 3)))
  (pss_cons (ps_set (i := 5) scFaces_apart.nd rfl (Or.inl rfl) pe_int)
  (pss_cons (ps_set (i := 6) scFaces_apart.nd rfl (Or.inl rfl) pe_int)
  (pss_cons (ps_while (passes_of rfl) (pt_cmpR op_gt (pe_op (k_add K) (k_ix K (k_fld K (pv 0) rfl) (pv 1) (fun _ _ => rfl)) (k_ix K (k_fld K (pv 0) rfl) (pv 2) (fun _ _ => rfl))) pe_int (nomark _)) (pss_cons (ps_set (i := 4) scFaces_apart.nd rfl (Or.inl rfl) (pe_op op_fdivW (pv 4) pe_int))
  (pss_cons (ps_set (i := 7) scFaces_apart.nd rfl (Or.inr rfl) (pe_lzip K (by rfl) T.ulist (by rfl) T.uzip (pa_cons (q_meth (pv 0) T.cFaces T.mFaces_quarters GFaces_quarters (hr.mono (by omega)) passX (pa_cons (pv 1) pa_nil)) (pa_cons (q_meth (pv 0) T.cFaces T.mFaces_quarters GFaces_quarters (hr.mono (by omega)) passX (pa_cons (pv 2) pa_nil)) pa_nil))))
  (pss_cons (ps_set (i := 9) scFaces_apart.nd rfl (Or.inl rfl) (k_ix K (pe_lc (own := [("k", 8)]) (g := gName 8) rfl scFaces_apart.nd (pi_range1 (by rfl) T.urange (pa_cons pe_int pa_nil)) (blkOk_by (own := [("k", 8)]) (N := nFaces_apart) (sc := defScope sFaces_apart) (by decide +kernel)) (fun _ _ _ _ _ => pg_name (i := 8) scFaces_apart.nd rfl (Or.inl rfl)) (fun _ _ _ _ _ => pts_one (pt_cmpR (k_ne K hu64) (k_ix K (k_ix K (pv 7) (pv 8) (fun _ _ => rfl)) pe_int (fun _ _ => rfl)) (k_ix K (k_ix K (pv 7) (pv 8) (fun _ _ => rfl)) pe_int (fun _ _ => rfl)) (nomark _))) (fun _ _ _ _ _ => (pv 8))) pe_int (fun _ _ => rfl)))
  (pss_cons (ps_asg (k_ix K (pv 7) (pv 9) (fun _ _ => rfl)) (k_pgt (n := 2) K rfl (pgs_cons (pg_name (i := 1) scFaces_apart.nd rfl (Or.inl rfl)) (pgs_cons (pg_name (i := 2) scFaces_apart.nd rfl (Or.inl rfl)) pgs_nil))))
  (pss_cons (ps_set (i := 5) scFaces_apart.nd rfl (Or.inl rfl) (pe_op (k_add K) (pv 5) (pe_op op_mulU (pv 4) (pe_op op_mod (pv 9) pe_int))))
  (pss_one (ps_set (i := 6) scFaces_apart.nd rfl (Or.inl rfl) (pe_op (k_add K) (pv 6) (pe_op op_mulU (pv 4) (pe_op op_fdivW (pv 9) pe_int)))))))))))
  (pss_one (ps_ret (pe_tup (pa_cons (pv 3) (pa_cons (pv 5) (pa_cons (pv 6) pa_nil)))))))))))))), ?_⟩
  try dsimp only [cxOf]
  obtain ⟨p, A, D, ps, f, g, rfl, hF, e, q⟩ := h
  obtain ⟨dx, ob⟩ := hF.ob
  walk_at "z"
  refine z_methR ob noFaces_need ?_
  walk_at "z"
  refine ⟨p, A, D, ps, f, rfl, hF, fun cf => ?_, fun cf => e fun z => cf z.1⟩
  walk_at "z"
  refine z_methR ob noFaces_need ?_
  walk_at "z"
  refine ⟨p, A, D, ps, g, rfl, hF, fun cg => ?_, fun cg => e fun z => cg z.2⟩
  obtain ⟨P, hP⟩ := IsF.ex cf.1 cf.2
  obtain ⟨R, hR⟩ := IsF.ex cg.1 cg.2
  obtain ⟨q1, q2⟩ := q P R hP hR
  have nd := hF.inv.nd
  walk_at "z"
  refine z_ite (fun c => ?_) (fun c => ?_)
  · walk_at "z"
    subst c
    exact q1 (hP.inj hR)
  have hne : P ≠ R := fun z => c (by rw [hP.eq nd, hR.eq nd, z])
  have q := q2 hne
  clear q1 q2
  walk_at "z"
  refine z_fldR ob T.cFaces T.aFaces_depths lkFaces_depths ?_
  walk_at "z"
  refine z_ixL (SqL.of hF.depths) (FacesAt.depthAt hP) ?_
  walk_at "z"
  refine z_fldR ob T.cFaces T.aFaces_depths lkFaces_depths ?_
  walk_at "z"
  refine z_ixL (SqL.of hF.depths) (FacesAt.depthAt hR) ?_
  walk_at "z"
  refine ⟨_, _, rfl, ?_⟩
  have em : (if ((R.depth : Nat) : Int) > ((P.depth : Nat) : Int) then ((R.depth : Nat) : Int) else ((P.depth : Nat) : Int)) = ((max P.depth R.depth : Nat) : Int) := by split <;> omega
  rw [em]
  have d1 := ok_depth (hF.inv.ok _ hP.mem)
  have d2 := ok_depth (hF.inv.ok _ hR.mem)
  obtain ⟨M, hM⟩ : ∃ M, M = max P.depth R.depth := ⟨_, rfl⟩
  rw [← hM] at q ⊢
  walk_at "z"
  refine z_I ⟨by omega, by omega, by decide⟩ ?_
  walk_at "z"
  rw [Int.one_mul, Int.toNat_natCast]
  refine z_while (fun m σ H' => Same H H' ∧ ∃ (f' g' : Int) (s : Nat) (P' R' : Pic) (x y : Int) (y7 y9 : Option V), σ = [some (.ref p), some (.int f'), some (.int g'), some (.int (M : Nat)), some (.int (2 ^ s)), some (.int x), some (.int y), y7, none, y9] ∧ m = s ∧ IsF ps f' P' ∧ IsF ps g' R' ∧ P' ≠ R' ∧ P'.depth ≤ s ∧ R'.depth ≤ s ∧ s ≤ 12 ∧
    ((0 ≤ x ∧ x + 2 ^ s ≤ 2 ^ M) ∧ 0 ≤ y ∧ y + 2 ^ s ≤ 2 ^ M) ∧ ∀ u v : Int, 0 ≤ u → u < 2 ^ s → 0 ≤ v → v < 2 ^ s → P.cell M (x + u) (y + v) = P'.cell s u v ∧ R.cell M (x + u) (y + v) = R'.cell s u v) M
    ⟨Same.refl H, f, g, M, P, R, 0, 0, none, none, rfl, rfl, hP, hR, hne, by omega, by omega, by omega, by omega, fun u v _ _ _ _ => by rw [Int.zero_add, Int.zero_add]; exact ⟨rfl, rfl⟩⟩ ?_
  rintro m σ H1 ⟨s1, f', g', s, P', R', x, y, y7, y9, rfl, rfl, hP', hR', hne', dP, dR, hs12, ⟨⟨x0, x1⟩, y0, y1⟩, hc⟩
  have hF1 := hF.same s1
  obtain ⟨dx1, ob1⟩ := hF1.ob
  have hp := pow2 m
  have hl := pow2_le (s := M) (n := 12) (by omega)
  walk_at "z"
  refine z_fldR ob1 T.cFaces T.aFaces_depths lkFaces_depths ?_
  walk_at "z"
  refine z_ixL (SqL.of hF1.depths) (FacesAt.depthAt hP') ?_
  walk_at "z"
  refine z_fldR ob1 T.cFaces T.aFaces_depths lkFaces_depths ?_
  walk_at "z"
  refine z_ixL (SqL.of hF1.depths) (FacesAt.depthAt hR') ?_
  walk_at "z"
  refine z_ite (fun c5 => ?_) (fun c5 => ?_)
  · refine ⟨_, fun _ _ h => h, ?_⟩
    cases m with
    | zero => omega
    | succ s =>
    have e2 : (2 : Int) ^ (s + 1) = 2 * 2 ^ s := by rw [Int.pow_succ]; omega
    have hh := pow2 s
    have hdv : (2 : Int) ^ (s + 1) / 2 = 2 ^ s := by rw [e2]; omega
    rw [e2] at x1 y1
    walk_at "z"
    refine z_I ⟨by decide, by decide⟩ ?_
    walk_at "z"
    rw [hdv]
    refine z_lzip ?_
    walk_at "z"
    refine z_methR ob1 noFaces_quarters ?_
    walk_at "z"
    refine ⟨p, A, D, ps, f', rfl, hF1, fun P2 hP2 H2 qa s2 fa => ?_, fun no => absurd ⟨hP'.1, hP'.lt⟩ no⟩
    obtain rfl := hP2.inj hP'
    have hF2 := hF1.same s2
    walk_at "z"
    refine z_methR (s2 _ _ ob1) noFaces_quarters ?_
    walk_at "z"
    refine ⟨p, A, D, ps, g', rfl, hF2, fun R2 hR2 H3 qb s3 fb => ?_, fun no => absurd ⟨hR'.1, hR'.lt⟩ no⟩
    obtain rfl := hR2.inj hR'
    walk_at "z"
    have l1 := quarters_len ps f' P2
    have l2 := quarters_len ps g' R2
    refine ⟨qa, qb, _, _, rfl, SqT.of (s3 _ _ fa), SqT.of fb, by rw [List.length_map, List.length_map, l1, l2], by rw [List.length_map, l1]; decide, by rw [List.length_map, l1]; decide, fun H4 l Ts s4 nl fl hTl hT => ?_⟩
    rw [List.length_map, l1] at hTl
    have gP : ∀ {i : Nat}, i < 4 → ∃ n, (quartersI ps f' P2)[i]? = some n ∧ IsF ps n (P2.quart i) := fun hi => quarters_get nd hP' (hF.inv.cl _ hP'.mem) hi
    have gR : ∀ {i : Nat}, i < 4 → ∃ n, (quartersI ps g' R2)[i]? = some n ∧ IsF ps n (R2.quart i) := fun hi => quarters_get nd hR' (hF.inv.cl _ hR'.mem) hi
    have gT : ∀ {i : Nat} {a b : Int}, i < 4 → (quartersI ps f' P2)[i]? = some a → (quartersI ps g' R2)[i]? = some b → ∃ T, Ts[i]? = some T ∧ H4 T = some (.tup [.int a, .int b]) := fun {i a b} hi ea eb =>
      ⟨_, List.getElem?_eq_getElem (by omega), hT i _ _ _ (List.getElem?_eq_getElem (by omega)) (by rw [List.getElem?_map, ea]; rfl) (by rw [List.getElem?_map, eb]; rfl)⟩
    clear hT fa fb
    walk_at "z"
    refine ⟨_, rfl, by decide, by decide, fun L hL => ?_⟩
    have nlL : l ≠ L := ne_of_none fl hL
    refine lc_range (lo := 0) (n := 4) (fun i H' => Same H4 H' ∧ ∃ js : List Nat, H' L = some (.lst (js.map fun j : Nat => V.int ((j : Nat) : Int))) ∧ js.length ≤ i ∧ (∀ j ∈ js, j < 4 ∧ (quartersI ps f' P2)[j]? ≠ (quartersI ps g' R2)[j]?) ∧ ∀ j, j < i → (quartersI ps f' P2)[j]? ≠ (quartersI ps g' R2)[j]? → j ∈ js)
      ⟨Same.new hL, [], upd_same, Nat.le_refl _, by simp, fun j hj => absurd hj (Nat.not_lt_zero _)⟩ ?_ ?_
    · rintro i H' hi ⟨t1, js, t2, t3, t4, t5⟩
      obtain ⟨na, ea, fa⟩ := gP hi
      obtain ⟨nb, eb, fb⟩ := gR hi
      obtain ⟨T, eT, fT⟩ := gT hi ea eb
      have ei : (0 : Int) + (i : Nat) = (i : Nat) := Int.zero_add _
      walk_at "zw"
      walk_at "z"
      rw [ei]
      refine ⟨rfl, ?_⟩
      walk_at "z"
      refine z_ixL (SqL.of (t1 _ _ fl)) (atI_of (n := i) (v := .ref T) (by rw [List.getElem?_map, eT]; rfl) rfl) ?_
      walk_at "z"
      refine z_ixT (SqT.of (t1 _ _ fT)) (atI_of (n := 0) rfl rfl) ?_
      walk_at "z"
      refine z_ixL (SqL.of (t1 _ _ fl)) (atI_of (n := i) (v := .ref T) (by rw [List.getElem?_map, eT]; rfl) rfl) ?_
      walk_at "z"
      refine z_ixT (SqT.of (t1 _ _ fT)) (atI_of (n := 1) rfl rfl) ?_
      walk_at "z"
      refine z_iteN (fun c6 => ?_) (fun c6 => ?_)
      · walk_at "z"
        refine ⟨_, t2, by rw [List.length_map]; exact szlt (by omega), t1.set hL, js ++ [i], by rw [upd_same, List.map_append]; rfl, by simp; omega, fun j hj => ?_, fun j hj hne => ?_⟩
        · rcases List.mem_append.mp hj with h | h
          · exact t4 j h
          · simp at h; subst h
            exact ⟨hi, by rw [ea, eb]; exact fun z => c6 (Option.some.inj z)⟩
        · by_cases hji : j < i
          · exact List.mem_append_left _ (t5 j hji hne)
          · obtain rfl : j = i := by omega
            simp
      · refine ⟨t1, js, t2, by omega, t4, fun j hj hne => ?_⟩
        by_cases hji : j < i
        · exact t5 j hji hne
        · obtain rfl : j = i := by omega
          exact absurd (by rw [ea, eb, c6]) hne
    · rintro H5 ⟨t1, js, t2, t3, t4, t5⟩
      obtain ⟨i0, hi0, hq0⟩ := quart_ne (hF.inv.ok _ hP'.mem) (hF.inv.ok _ hR'.mem) hne' (by omega)
      have hin : i0 ∈ js := by
        refine t5 i0 hi0 fun z => ?_
        obtain ⟨na, ea, fa⟩ := gP hi0
        obtain ⟨nb, eb, fb⟩ := gR hi0
        rw [ea, eb] at z
        obtain rfl := Option.some.inj z
        exact hq0 (fa.inj fb)
      cases js with
      | nil => simp at hin
      | cons i js =>
      obtain ⟨hi, hne4⟩ := t4 i (by simp)
      obtain ⟨na, ea, fa⟩ := gP hi
      obtain ⟨nb, eb, fb⟩ := gR hi
      obtain ⟨T, eT, fT⟩ := gT hi ea eb
      have hnn : P2.quart i ≠ R2.quart i := fun z => hne4 (by rw [ea, eb, fa.eq nd, fb.eq nd, z])
      walk_at "z"
      refine z_ixL (SqL.of t2) (atI_of (n := 0) rfl rfl) ?_
      walk_at "z"
      refine z_ixL (SqL.of (t1 _ _ fl)) (atI_of (n := i) (v := .ref T) (by rw [List.getElem?_map, eT]; rfl) rfl) ?_
      refine z_gTup (SqT.of (t1 _ _ fT)) rfl ?_
      walk_at "z"
      refine z_I (by decide) ?_
      have em2 : ((i : Nat) : Int) % 2 = ((i % 2 : Nat) : Int) := by omega
      have ed2 : ((i : Nat) : Int) / 2 = ((i / 2 : Nat) : Int) := by omega
      have b1 : i % 2 < 2 := by omega
      have b2 : i / 2 < 2 := by omega
      rw [em2]
      refine z_mulI (mulS (by omega) (by omega)) ?_
      walk_at "z"
      refine z_I (divW (by decide) (by decide)) ?_
      rw [ed2]
      refine z_mulI (mulS (by omega) (by omega)) ?_
      walk_at "z"
      have hx : (2 : Int) ^ s * ((i % 2 : Nat) : Int) = 0 ∨ (2 : Int) ^ s * ((i % 2 : Nat) : Int) = 2 ^ s := by
        rcases (show i % 2 = 0 ∨ i % 2 = 1 by omega) with z | z <;> rw [z] <;> simp
      have hy : (2 : Int) ^ s * ((i / 2 : Nat) : Int) = 0 ∨ (2 : Int) ^ s * ((i / 2 : Nat) : Int) = 2 ^ s := by
        rcases (show i / 2 = 0 ∨ i / 2 = 1 by omega) with z | z <;> rw [z] <;> simp
      refine ⟨s, by omega, (((s1.trans s2).trans s3).trans s4).trans t1, na, nb, s, P2.quart i, R2.quart i, _, _, _, _, rfl, rfl, fa, fb, hnn, quart_depth dP i, quart_depth dR i, by omega, by omega, fun u v u0 u1 v0 v1 => ?_⟩
      have cc := hc (2 ^ s * ((i % 2 : Nat) : Int) + u) (2 ^ s * ((i / 2 : Nat) : Int) + v) (by omega) (by rw [e2]; omega) (by omega) (by rw [e2]; omega)
      rw [quart_cell hi u0 u1 v0 v1, quart_cell hi u0 u1 v0 v1] at cc
      rw [Int.add_assoc, Int.add_assoc]
      exact cc
  · obtain ⟨c1, rfl⟩ := depth_zero (P := P') (by omega)
    obtain ⟨c2, rfl⟩ := depth_zero (P := R') (by omega)
    walk_at "z"
    walk_at "zt"
    rename_i t nt H2 s2 f2
    have cc := hc 0 0 (by omega) hp (by omega) hp
    rw [Int.add_zero, Int.add_zero] at cc
    refine q x y H2 t (s1.trans s2) f2 (by omega) (by omega) ?_
    rw [cc.1, cc.2]
    intro z
    exact hne' (congrArg Pic.p z)
def spNumbered (C : Addr) (K : PySem.W.Frag) : Sp := fun vs H Q _ => ∃ p A D ps tl, ∃ Ps : List Pic, vs = [.ref p, .ref tl] ∧ FacesAt C H p A D ps ∧ 2 ≤ ps.length ∧ ps.length < 20000 ∧ H tl = some (.lst (Ps.map fun P => V.int (ix ps P : Nat))) ∧ 0 < Ps.length ∧ (∀ P ∈ Ps, P ∈ ps) ∧ ∀ H', Same H H' → Q (.bl true) H'
abbrev n_law_numbered : List Str := ["_law_faces", "_law_told", "_law_many", "_law_number", "_law_part"]
abbrev p_law_numbered : List Str := ["_law_faces", "_law_told"]
theorem sc_law_numbered : FnScope n_law_numbered p_law_numbered (defScope s_law_numbered) := ⟨rfl, rfl, rfl, by decide +kernel, rfl, by decide +kernel, by decide +kernel⟩
theorem ok__law_numbered {P : Program} {w : World} {K : PySem.W.Frag} {mg : Str → Option Value} {base : Heap} (T : Tx w K mg) : Fk P w K mg base 4 (He.ga K "_law_numbered") p_law_numbered (spNumbered (He.ga K "Faces") K) := by
  have G_law_there := ok__law_there (P := P) (w := w) (base := base) T
  have GFaces_apart := ok_Faces_apart (P := P) (w := w) (base := base) T
  have GFaces_quarters := ok_Faces_quarters (P := P) (w := w) (base := base) T
  have GFaces___init__ := ok_Faces___init__ (P := P) (w := w) (base := base) T
  refine Fk.mk' T.f_law_numbered sc_law_numbered (fun _ _ _ _ _ _ us hl => match us, hl with | [_, _], _ => rfl) (by
  intro vs H Q E h
  repeat (first | (obtain ⟨h1, _⟩ := h; subst h1; rfl) | (obtain ⟨_, h⟩ := h))) (fun cdv A outer s H vs Q E hr h => ?_)
  have hu := hu_of hr
  have hu64 := hr.units
  refine ⟨_, (pss_cons (ps_set (i := 2) sc_law_numbered.nd rfl (Or.inl rfl) pe_int)
  (pss_cons (ps_while (passes_of rfl) (PW.pt (pw_and (pt_cmpR op_lt (pv 2) pe_int (nomark _)) (pw_and1 (pt_val (q_call G_law_there (hr.mono (by omega)) T.g_law_there passX (pa_cons (pv 0) (pa_cons (pv 2) pa_nil))))))) (pss_one (ps_aug (i := 2) sc_law_numbered.nd rfl (Or.inl rfl) pe_int ip_add)))
  (pss_cons (ps_if (pt_cmpR (k_eq K hu64) (pv 2) pe_int (nomark _)) (pss_one (ps_ret pe_bl)) pss_nil)
  (pss_cons (ps_if (PW.pt (pw_or (pt_cmpR op_ge (pe_callB (k_max K rfl) (by rfl) T.umax (by decide +kernel) (pa_cons (pv 1) pa_nil)) (pv 2) (nomark _)) (pw_or (pt_val (q_call G_law_there (hr.mono (by omega)) T.g_law_there passX (pa_cons (pv 0) (pa_cons (pe_op (k_add K) (pv 2) pe_int) pa_nil)))) (pw_or1 (pt_val (q_call G_law_there (hr.mono (by omega)) T.g_law_there passX (pa_cons (q_make0 T.kFaces GFaces___init__ (hr.mono (by omega)) T.gFaces passX) (pa_cons pe_int pa_nil)))))))) (pss_one (ps_ret pe_bl)) pss_nil)
  (pss_cons (ps_if (pt_cmpR op_isX (q_meth (pv 0) T.cFaces T.mFaces_apart GFaces_apart (hr.mono (by omega)) passX (pa_cons (pe_op op_sub (pv 2) pe_int) (pa_cons (pe_op op_sub (pv 2) pe_int) pa_nil))) pe_non (nomark _)) (pss_one (ps_ret pe_bl)) pss_nil)
  (pss_cons (ps_for (passes_of rfl) rfl (pi_range1 (by rfl) T.urange (pa_cons (pv 2) pa_nil)) (pg_name (i := 3) sc_law_numbered.nd rfl (Or.inl rfl)) (pss_one (ps_for (passes_of rfl) rfl (k_pit K (q_meth (pv 0) T.cFaces T.mFaces_quarters GFaces_quarters (hr.mono (by omega)) passX (pa_cons (pv 3) pa_nil))) (pg_name (i := 4) sc_law_numbered.nd rfl (Or.inl rfl)) (pss_one (ps_if (pt_not (pt_val (q_call G_law_there (hr.mono (by omega)) T.g_law_there passX (pa_cons (pv 0) (pa_cons (pv 4) pa_nil))))) (pss_one (ps_ret pe_bl)) pss_nil)))))
  (pss_one (ps_ret pe_bl)))))))), ?_⟩
  try dsimp only [cxOf]
  obtain ⟨p, A, D, ps, tl, Ps, rfl, hF, h10, h20, htl, hPl, hm, q⟩ := h
  walk_at "z"
  refine z_while (fun m σ H' => H' = H ∧ ∃ i : Nat, i ≤ ps.length ∧ m = ps.length - i ∧ σ = [some (.ref p), some (.ref tl), some (.int (i : Nat)), none, none]) (ps.length) ⟨rfl, 0, by omega, by omega, rfl⟩ ?_
  rintro m σ H' ⟨rfl, i, hi, rfl, rfl⟩
  walk_at "z"
  refine z_yes (by omega) ?_
  walk_at "z"
  refine ⟨p, A, D, ps, (i : Nat), rfl, hF, ?_⟩
  by_cases c : i < ps.length
  · rw [decide_eq_true (show (0 : Int) ≤ ((i : Nat) : Int) ∧ ((i : Nat) : Int) < ((ps.length : Nat) : Int) by omega)]
    walk_at "z"
    refine ⟨fun σ' H'' => H'' = H' ∧ σ' = [some (.ref p), some (.ref tl), some (.int ((i + 1 : Nat) : Int)), none, none], fun σ' H'' ⟨e1, e2⟩ => ⟨ps.length - (i + 1), by omega, e1, i + 1, by omega, rfl, e2⟩, ?_⟩
    refine ⟨_, rfl, ?_⟩
    walk_at "z"
    exact ⟨rfl, rfl⟩
  obtain rfl : i = ps.length := by omega
  rw [decide_eq_false (show ¬ ((0 : Int) ≤ ((ps.length : Nat) : Int) ∧ ((ps.length : Nat) : Int) < ((ps.length : Nat) : Int)) by omega)]
  clear c hi
  walk_at "z"
  refine z_no (by omega) ?_
  walk_at "z"
  refine z_max (ns := Ps.map fun P => ((ix ps P : Nat) : Int)) (by rw [List.map_map]; exact SqL.of htl) (by rw [List.length_map]; exact hPl) fun mx hmx _ => ?_
  have hmx2 : mx < (ps.length : Nat) := by
    obtain ⟨P, hP, rfl⟩ := List.mem_map.mp hmx
    have := ix_lt (hm P hP)
    omega
  walk_at "z"
  refine z_no (by omega) ?_
  walk_at "z"
  refine ⟨p, A, D, ps, _, rfl, hF, ?_⟩
  rw [decide_eq_false (show ¬ ((0 : Int) ≤ ((ps.length : Nat) : Int) + 1 ∧ ((ps.length : Nat) : Int) + 1 < ((ps.length : Nat) : Int)) by omega)]
  walk_at "z"
  refine z_mkFaces fun H1 p1 A1 D1 s1 hF1 hD1 => ?_
  walk_at "z"
  refine ⟨p1, A1, D1, [], _, rfl, hF1, ?_⟩
  rw [decide_eq_false (show ¬ ((0 : Int) ≤ 0 ∧ (0 : Int) < (([] : List Pic).length : Nat)) by simp)]
  have hF2 := hF.same s1
  obtain ⟨dx2, ob2⟩ := hF2.ob
  walk_at "z"
  refine z_methR ob2 noFaces_apart ?_
  walk_at "z"
  have g1 : ps.length - 1 < ps.length := by omega
  have g2 : ps.length - 2 < ps.length := by omega
  have h1 : IsF ps (((ps.length : Nat) : Int) - 1) ps[ps.length - 1] := ⟨by omega, by rw [show (((ps.length : Nat) : Int) - 1).toNat = ps.length - 1 by omega]; exact List.getElem?_eq_getElem g1⟩
  have h2 : IsF ps (((ps.length : Nat) : Int) - 2) ps[ps.length - 2] := ⟨by omega, by rw [show (((ps.length : Nat) : Int) - 2).toNat = ps.length - 2 by omega]; exact List.getElem?_eq_getElem g2⟩
  refine ⟨p, A, D, ps, _, _, rfl, hF2, fun no => absurd ⟨⟨by omega, by omega⟩, by omega, by omega⟩ no, fun P R hP hR => ⟨fun e => ?_, fun _ x y H3 t s3 _ _ _ _ => ?_⟩⟩
  · rw [hP.inj h1, hR.inj h2] at e
    have := (List.getElem_inj hF.inv.nd).mp e
    omega
  walk_at "z"
  refine z_no (fun z => by cases z) ?_
  walk_at "z"
  have s03 := s1.trans s3
  refine ⟨_, rfl, by omega, by omega, ?_⟩
  rw [Int.toNat_natCast]
  refine for_range (lo := 0) (n := ps.length) (fun i σ H4 => Same H' H4 ∧ ∃ x4 x5, σ = [some (.ref p), some (.ref tl), some (.int (ps.length : Nat)), x4, x5]) ⟨s03, none, none, rfl⟩ ?_ ?_
  · rintro i σ H4 hi ⟨s4, x4, x5, rfl⟩
    have e0 : (0 : Int) + (i : Nat) = (i : Nat) := Int.zero_add _
    rw [e0]
    have hF4 := hF.same s4
    obtain ⟨dx4, ob4⟩ := hF4.ob
    walk_at "z"
    refine z_methR ob4 noFaces_quarters ?_
    walk_at "z"
    refine ⟨p, A, D, ps, (i : Nat), rfl, hF4, fun P hP H5 a5 s5 f5 => ?_, fun no => absurd ⟨by omega, by omega⟩ no⟩
    have hF5 := hF4.same s5
    refine ⟨a5, rfl, ⟨_, SqT.of f5⟩, ?_⟩
    refine for_tup (K := K) (a := a5) (xs := (quartersI ps (i : Nat) P).map V.int) (fun j σ H6 => H6 = H5 ∧ ∃ x5, σ = [some (.ref p), some (.ref tl), some (.int (ps.length : Nat)), some (.int (i : Nat)), x5]) ⟨rfl, _, rfl⟩ (fun j σ H6 _ h => by rw [h.1]; exact SqT.of f5) ?_ ?_
    · rintro j x σ H6 hj ⟨rfl, x6, rfl⟩
      rw [List.getElem?_map] at hj
      have hj4 : j < 4 := by
        cases e : (quartersI ps (i : Nat) P)[j]? with
        | none => rw [e] at hj; cases hj
        | some y => have := (List.getElem?_eq_some_iff.mp e).1; rw [quarters_len] at this; exact this
      obtain ⟨g, hg, hgF⟩ := quarters_get hF.inv.nd hP (hF.inv.cl _ hP.mem) hj4
      rw [hg] at hj
      obtain rfl := Option.some.inj hj
      walk_at "z"
      refine ⟨p, A, D, ps, g, rfl, hF5, ?_⟩
      rw [decide_eq_true (⟨hgF.1, hgF.lt⟩ : (0 : Int) ≤ g ∧ g < ((ps.length : Nat) : Int))]
      walk_at "z"
      exact ⟨rfl, _, rfl⟩
    · rintro σ H6 ⟨rfl, x6, rfl⟩
      exact ⟨s4.trans s5, _, _, rfl⟩
  · rintro σ H4 ⟨s4, x4, x5, rfl⟩
    walk_at "z"
    exact q _ s4
def isWhole : PyData → Bool
  | .int _ => true
  | _ => false
def spWhole : Sp := fun vs H Q _ => ∃ x d, vs = [x] ∧ Dv H x d ∧ Q (.bl (isWhole d)) H
abbrev n_law_whole : List Str := ["_law_found"]
abbrev p_law_whole : List Str := ["_law_found"]
theorem sc_law_whole : FnScope n_law_whole p_law_whole (defScope s_law_whole) := ⟨rfl, rfl, rfl, by decide +kernel, rfl, by decide +kernel, by decide +kernel⟩
theorem ok__law_whole {P : Program} {w : World} {K : PySem.W.Frag} {mg : Str → Option Value} {base : Heap} (T : Tx w K mg) : Fk P w K mg base 1 (He.ga K "_law_whole") p_law_whole (spWhole) := by
  refine Fk.mk' T.f_law_whole sc_law_whole (fun _ _ _ _ _ _ us hl => match us, hl with | [_], _ => rfl) (by
  intro vs H Q E h
  repeat (first | (obtain ⟨h1, _⟩ := h; subst h1; rfl) | (obtain ⟨_, h⟩ := h))) (fun cdv A outer s H vs Q E hr h => ?_)
  have hu := hu_of hr
  have hu64 := hr.units
  refine ⟨_, (pss_one (ps_ret (pe_and (pe_callB (k_isi K) (by rfl) T.uisinstance (by decide +kernel) (pa_cons (pv 0) (pa_cons (pe_bltn (v := .ty "int") (by rfl) T.uint (by decide +kernel) rfl) pa_nil))) (pe_one (pe_not (pe_callB (k_isi K) (by rfl) T.uisinstance (by decide +kernel) (pa_cons (pv 0) (pa_cons (pe_bltn (v := .ty "bool") (by rfl) T.ubool (by decide +kernel) rfl) pa_nil)))))))), ?_⟩
  try dsimp only [cxOf]
  obtain ⟨x, d, rfl, hd, q⟩ := h
  walk_at "z"
  cases hd with
  | int i =>
    refine z_isI true (by decide +kernel) ?_
    walk_at "z"
    refine z_isI false (by decide +kernel) ?_
    walk_at "z"
    exact q
  | non => exact z_isNn false (by decide +kernel) (by walk_at "z"; exact q)
  | bl b => exact z_isBl true (by decide +kernel) (by walk_at "z"; exact z_isBl true (by decide +kernel) (by walk_at "z"; exact q))
  | str x => exact z_isS false (by decide +kernel) (by walk_at "z"; exact q)
  | lst h1 h2 => exact z_isL false h1 (by decide +kernel) (by walk_at "z"; exact q)
  | tup h1 h2 => exact z_isT false h1 (by decide +kernel) (by walk_at "z"; exact q)
/-- the same data on both sides: True comes out -/
def spLike (n : Nat) : Sp := fun vs H Q _ => ∃ x y d, vs = [x, y] ∧ Dv H x d ∧ Dv H y d ∧ dpt d < n ∧ ∀ H', Same H H' → Q (.bl true) H'
abbrev n_law_like : List Str := ["_law_found", "_law_due", "_law_one", "_law_other"]
abbrev p_law_like : List Str := ["_law_found", "_law_due"]
theorem sc_law_like : FnScope n_law_like p_law_like (defScope s_law_like) := ⟨rfl, rfl, rfl, by decide +kernel, rfl, by decide +kernel, by decide +kernel⟩
theorem ok__law_like {P : Program} {w : World} {K : PySem.W.Frag} {mg : Str → Option Value} {base : Heap} (T : Tx w K mg) : ∀ n : Nat, Fk P w K mg base (1 + n) (He.ga K "_law_like") p_law_like (spLike n)
  | 0 => (Fk.no T.f_law_like (fun _ _ _ _ _ _ us hl => match us, hl with | [_, _], _ => rfl) (fun vs H Q E ⟨x, y, d, _, _, _, h, _⟩ => absurd h (Nat.not_lt_zero _))).up (by omega)
  | n + 1 => by
      have GR := ok__law_like (P := P) (w := w) (base := base) T n
      have G_law_whole := ok__law_whole (P := P) (w := w) (base := base) T
      refine Fk.mk' (k := 1 + n) T.f_law_like sc_law_like (fun _ _ _ _ _ _ us hl => match us, hl with | [_, _], _ => rfl) (by
        intro vs H Q E h
        repeat (first | (obtain ⟨h1, _⟩ := h; subst h1; rfl) | (obtain ⟨_, h⟩ := h))) (fun cdv A outer s H vs Q E hr h => ?_)
      have hu := hu_of hr
      have hu64 := hr.units
      refine ⟨_, (pss_cons (ps_if (pt_cmpR op_isX (pv 1) pe_non (nomark _)) (pss_one (ps_ret (pe_cmpR op_isX (pv 0) pe_non (nomark _)))) pss_nil)
      (pss_cons (ps_if (pt_cmpR op_isX (pv 1) pe_bl (nomark _)) (pss_one (ps_ret (pe_cmpR op_isX (pv 0) pe_bl (nomark _)))) pss_nil)
      (pss_cons (ps_if (pt_cmpR op_isX (pv 1) pe_bl (nomark _)) (pss_one (ps_ret (pe_cmpR op_isX (pv 0) pe_bl (nomark _)))) pss_nil)
      (pss_cons (ps_if (pt_val (pe_callB (k_isi K) (by rfl) T.uisinstance (by decide +kernel) (pa_cons (pv 1) (pa_cons (pe_bltn (v := .ty "int") (by rfl) T.uint (by decide +kernel) rfl) pa_nil)))) (pss_one (ps_ret (pe_and (q_call G_law_whole (hr.mono (by omega)) T.g_law_whole passX (pa_cons (pv 0) pa_nil)) (pe_one (pe_cmpR (k_eq K hu64) (pv 0) (pv 1) (nomark _)))))) pss_nil)
      (pss_cons (ps_if (pt_val (pe_callB (k_isi K) (by rfl) T.uisinstance (by decide +kernel) (pa_cons (pv 1) (pa_cons (pe_bltn (v := .ty "str") (by rfl) T.ustr (by decide +kernel) rfl) pa_nil)))) (pss_one (ps_ret (pe_and (pe_callB (k_isi K) (by rfl) T.uisinstance (by decide +kernel) (pa_cons (pv 0) (pa_cons (pe_bltn (v := .ty "str") (by rfl) T.ustr (by decide +kernel) rfl) pa_nil))) (pe_one (pe_cmpR (k_eq K hu64) (pv 0) (pv 1) (nomark _)))))) pss_nil)
      (pss_cons (ps_if (PW.pt (pw_and (pt_val (pe_callB (k_isi K) (by rfl) T.uisinstance (by decide +kernel) (pa_cons (pv 1) (pa_cons (pe_bltn (v := .ty "tuple") (by rfl) T.utuple (by decide +kernel) rfl) pa_nil)))) (pw_and1 (pt_not (pt_val (pe_callB (k_isi K) (by rfl) T.uisinstance (by decide +kernel) (pa_cons (pv 0) (pa_cons (pe_bltn (v := .ty "tuple") (by rfl) T.utuple (by decide +kernel) rfl) pa_nil)))))))) (pss_one (ps_ret pe_bl)) pss_nil)
      (pss_cons (ps_if (PW.pt (pw_and (pt_val (pe_callB (k_isi K) (by rfl) T.uisinstance (by decide +kernel) (pa_cons (pv 1) (pa_cons (pe_bltn (v := .ty "list") (by rfl) T.ulist (by decide +kernel) rfl) pa_nil)))) (pw_and1 (pt_not (pt_val (pe_callB (k_isi K) (by rfl) T.uisinstance (by decide +kernel) (pa_cons (pv 0) (pa_cons (pe_bltn (v := .ty "list") (by rfl) T.ulist (by decide +kernel) rfl) pa_nil)))))))) (pss_one (ps_ret pe_bl)) pss_nil)
      (pss_cons (ps_if (pt_cmpR (k_ne K hu64) (pe_callB (k_len K) (by rfl) T.ulen (by decide +kernel) (pa_cons (pv 0) pa_nil)) (pe_callB (k_len K) (by rfl) T.ulen (by decide +kernel) (pa_cons (pv 1) pa_nil)) (nomark _)) (pss_one (ps_ret pe_bl)) pss_nil)
      (pss_cons (ps_for (passes_of rfl) rfl (k_zip K (by rfl) T.uzip (pa_cons (pv 0) (pa_cons (pv 1) pa_nil))) (k_pgt (n := 2) K rfl (pgs_cons (pg_name (i := 2) sc_law_like.nd rfl (Or.inl rfl)) (pgs_cons (pg_name (i := 3) sc_law_like.nd rfl (Or.inl rfl)) pgs_nil))) (pss_one (ps_if (pt_not (pt_val (q_call GR (hr.mono (by omega)) T.g_law_like passX (pa_cons (pv 2) (pa_cons (pv 3) pa_nil))))) (pss_one (ps_ret pe_bl)) pss_nil)))
      (pss_one (ps_ret pe_bl))))))))))), ?_⟩
      try dsimp only [cxOf]
      obtain ⟨x, y, d, rfl, hx, hy, hd, q⟩ := h
      walk_at "z"
      cases hx with
      | non =>
        cases hy
        refine z_yes rfl ?_
        walk_at "z"
        exact q H (Same.refl H)
      | bl b =>
        cases hy
        refine z_no (by intro z; cases z) ?_
        walk_at "z"
        cases b with
        | true =>
          refine z_yes rfl ?_
          walk_at "z"
          exact q H (Same.refl H)
        | false =>
          refine z_no (by intro z; cases z) ?_
          walk_at "z"
          refine z_yes rfl ?_
          walk_at "z"
          exact q H (Same.refl H)
      | int i =>
        cases hy
        refine z_no (by intro z; cases z) ?_
        walk_at "z"
        refine z_no (by intro z; cases z) ?_
        walk_at "z"
        refine z_no (by intro z; cases z) ?_
        walk_at "z"
        refine z_isI true (by decide +kernel) ?_
        walk_at "z"
        refine ⟨_, _, rfl, .int i, ?_⟩
        walk_at "z"
        refine iteT ?_
        walk_at "z"
        have e : decide (i = i) = true := decide_eq_true rfl
        rw [e]
        exact q H (Same.refl H)
      | str i =>
        cases hy
        refine z_no (by intro z; cases z) ?_
        walk_at "z"
        refine z_no (by intro z; cases z) ?_
        walk_at "z"
        refine z_no (by intro z; cases z) ?_
        walk_at "z"
        refine z_isS false (by decide +kernel) ?_
        walk_at "z"
        refine z_isS true (by decide +kernel) ?_
        walk_at "z"
        refine z_isS true (by decide +kernel) ?_
        walk_at "z"
        have e : decide (i = i) = true := decide_eq_true rfl
        rw [e]
        exact q H (Same.refl H)
      | @tup a xs ds ha hxs =>
        cases hy with
        | @tup b ys _ hb hys =>
        have hl : xs.length = ys.length := by rw [hxs.len, hys.len]
        refine z_no (by intro z; cases z) ?_
        walk_at "z"
        refine z_no (by intro z; cases z) ?_
        walk_at "z"
        refine z_no (by intro z; cases z) ?_
        walk_at "z"
        refine z_isT false hb (by decide +kernel) ?_
        walk_at "z"
        refine z_isT false hb (by decide +kernel) ?_
        walk_at "z"
        refine z_isT true hb (by decide +kernel) ?_
        walk_at "z"
        refine z_isT true ha (by decide +kernel) ?_
        walk_at "z"
        refine z_isT false hb (by decide +kernel) ?_
        walk_at "z"
        refine z_lenT (SqT.of ha) ?_
        walk_at "z"
        refine z_lenT (SqT.of hb) ?_
        walk_at "z"
        refine z_noN (by rw [hl]) ?_
        walk_at "z"
        refine ⟨_, _, _, _, rfl, .inr ⟨SqT.of ha, SqT.of hb, ?_⟩⟩
        refine RZ.for_zipT hl (fun i σ H' => ∃ u v, σ = [some (.ref a), some (.ref b), u, v] ∧ Same H H') ⟨_, _, rfl, Same.refl H⟩ (fun i σ H' ⟨_, _, _, s⟩ => ⟨s.tup (SqT.of ha), s.tup (SqT.of hb)⟩) ?_ ?_
        · rintro i x y T σ H' ex ey ⟨u, v, rfl, s1⟩ nT
          refine z_gTup (SqT.of upd_same) rfl ?_
          walk_at "z"
          obtain ⟨d, e1, e2⟩ := hxs.get ex
          obtain ⟨d', e1', e2'⟩ := hys.get ey
          cases e1.symm.trans e1'
          have s2 : Same H (upd H' T (.tup [x, y])) := s1.trans (Same.new nT)
          refine ⟨x, y, d, rfl, dv_same s2 e2, dv_same s2 e2', ?_, fun H2 s3 => ?_⟩
          · have := dpt_mem e1
            simp only [dpt] at hd
            omega
          · walk_at "z"
            exact ⟨_, _, rfl, s2.trans s3⟩
        · rintro σ H' ⟨u, v, rfl, s1⟩
          walk_at "z"
          exact q _ s1
      | @lst a xs ds ha hxs =>
        cases hy with
        | @lst b ys _ hb hys =>
        have hl : xs.length = ys.length := by rw [hxs.len, hys.len]
        refine z_no (by intro z; cases z) ?_
        walk_at "z"
        refine z_no (by intro z; cases z) ?_
        walk_at "z"
        refine z_no (by intro z; cases z) ?_
        walk_at "z"
        refine z_isL false hb (by decide +kernel) ?_
        walk_at "z"
        refine z_isL false hb (by decide +kernel) ?_
        walk_at "z"
        refine z_isL false hb (by decide +kernel) ?_
        walk_at "z"
        refine z_isL true hb (by decide +kernel) ?_
        walk_at "z"
        refine z_isL true ha (by decide +kernel) ?_
        walk_at "z"
        refine z_lenL (SqL.of ha) ?_
        walk_at "z"
        refine z_lenL (SqL.of hb) ?_
        walk_at "z"
        refine z_noN (by rw [hl]) ?_
        walk_at "z"
        refine ⟨_, _, _, _, rfl, .inl ⟨SqL.of ha, SqL.of hb, ?_⟩⟩
        refine RZ.for_zipL hl (fun i σ H' => ∃ u v, σ = [some (.ref a), some (.ref b), u, v] ∧ Same H H') ⟨_, _, rfl, Same.refl H⟩ (fun i σ H' ⟨_, _, _, s⟩ => ⟨s.seq (SqL.of ha), s.seq (SqL.of hb)⟩) ?_ ?_
        · rintro i x y T σ H' ex ey ⟨u, v, rfl, s1⟩ nT
          refine z_gTup (SqT.of upd_same) rfl ?_
          walk_at "z"
          obtain ⟨d, e1, e2⟩ := hxs.get ex
          obtain ⟨d', e1', e2'⟩ := hys.get ey
          cases e1.symm.trans e1'
          have s2 : Same H (upd H' T (.tup [x, y])) := s1.trans (Same.new nT)
          refine ⟨x, y, d, rfl, dv_same s2 e2, dv_same s2 e2', ?_, fun H2 s3 => ?_⟩
          · have := dpt_mem e1
            simp only [dpt] at hd
            omega
          · walk_at "z"
            exact ⟨_, _, rfl, s2.trans s3⟩
        · rintro σ H' ⟨u, v, rfl, s1⟩
          walk_at "z"
          exact q _ s1
def spSpot : Sp := fun vs H Q _ => ∃ (z : Int) (d : Nat), vs = [.int z, .int (d : Nat)] ∧ d ≤ 20 ∧ ∀ H' q x y, Same H H' → H' q = some (.tup [.int x, .int y]) → ((0 ≤ x ∧ x < 2 ^ d) ∧ 0 ≤ y ∧ y < 2 ^ d) → Q (.ref q) H'
abbrev n_law_spot : List Str := ["_law_cell_here", "_law_depth", "_law_parts", "_law_x", "_law_y", "_law_k", "_law_size"]
abbrev p_law_spot : List Str := ["_law_cell_here", "_law_depth"]
theorem sc_law_spot : FnScope n_law_spot p_law_spot (defScope s_law_spot) := ⟨rfl, rfl, rfl, by decide +kernel, rfl, by decide +kernel, by decide +kernel⟩
theorem ok__law_spot {P : Program} {w : World} {K : PySem.W.Frag} {mg : Str → Option Value} {base : Heap} (T : Tx w K mg) : Fk P w K mg base 2 (He.ga K "_law_spot") p_law_spot (spSpot) := by
  have G_law_row := ok__law_row (P := P) (w := w) (base := base) T
  refine Fk.mk' T.f_law_spot sc_law_spot (fun _ _ _ _ _ _ us hl => match us, hl with | [_, _], _ => rfl) (by
  intro vs H Q E h
  repeat (first | (obtain ⟨h1, _⟩ := h; subst h1; rfl) | (obtain ⟨_, h⟩ := h))) (fun cdv A outer s H vs Q E hr h => ?_)
  have hu := hu_of hr
  have hu64 := hr.units
  refine ⟨_, (pss_cons (ps_set (i := 2) sc_law_spot.nd rfl (Or.inl rfl) (q_call G_law_row (hr.mono (by omega)) T.g_law_row passX (pa_cons (pv 0) (pa_cons pe_int (pa_cons pe_int pa_nil)))))
  (pss_cons (ps_set (i := 3) sc_law_spot.nd rfl (Or.inl rfl) pe_int)
  (pss_cons (ps_set (i := 4) sc_law_spot.nd rfl (Or.inl rfl) pe_int)
  (pss_cons (ps_for (passes_of rfl) rfl (pi_range1 (by rfl) T.urange (pa_cons pe_int pa_nil)) (pg_name (i := 5) sc_law_spot.nd rfl (Or.inl rfl)) (pss_cons (ps_set (i := 3) sc_law_spot.nd rfl (Or.inl rfl) (pe_op (k_add K) (pe_op op_mulU (pv 3) pe_int) (k_ix K (pv 2) (pv 5) (fun _ _ => rfl))))
  (pss_one (ps_set (i := 4) sc_law_spot.nd rfl (Or.inl rfl) (pe_op (k_add K) (pe_op op_mulU (pv 4) pe_int) (k_ix K (pv 2) (pe_op (k_add K) pe_int (pv 5)) (fun _ _ => rfl)))))))
  (pss_cons (ps_set (i := 6) sc_law_spot.nd rfl (Or.inl rfl) (pe_op op_shl pe_int (pv 1)))
  (pss_cons (ps_if (pt_cmpR (k_eq K hu64) (k_ix K (pv 2) pe_int (fun _ _ => rfl)) pe_int (nomark _)) (pss_one (ps_ret (pe_tup (pa_cons (pe_op op_sub (pv 6) pe_int) (pa_cons (pe_op op_sub (pv 6) pe_int) pa_nil))))) pss_nil)
  (pss_one (ps_ret (pe_tup (pa_cons (pe_op op_mod (pv 3) (pv 6)) (pa_cons (pe_op op_mod (pv 4) (pv 6)) pa_nil))))))))))), ?_⟩
  try dsimp only [cxOf]
  obtain ⟨z, d, rfl, hd, q⟩ := h
  walk_at "z"
  refine ⟨z, 13, 10, rfl, by omega, by decide, by decide, fun H1 R s1 nR f1 => ?_⟩
  walk_at "z"
  refine ⟨_, rfl, by decide, by decide, ?_⟩
  refine for_range (lo := 0) (n := 6) (fun i σ H' => H' = H1 ∧ ∃ (x y : Int) (k sz : Option V), ((0 ≤ x ∧ x < 10 ^ i) ∧ 0 ≤ y ∧ y < 10 ^ i) ∧ σ = [some (.int z), some (.int (d : Nat)), some (.ref R), some (.int x), some (.int y), k, sz]) ⟨rfl, 0, 0, none, none, by decide, rfl⟩ ?_ ?_
  · rintro i σ H' hi ⟨rfl, x, y, k, sz, ⟨⟨x0, x1⟩, y0, y1⟩, rfl⟩
    have hi6 : i < 6 := hi
    have e0 : (0 : Int) + (i : Nat) = (i : Nat) := Int.zero_add _
    rw [e0]
    have hp : (10 : Int) ^ i ≤ 100000 := by
      have : i = 0 ∨ i = 1 ∨ i = 2 ∨ i = 3 ∨ i = 4 ∨ i = 5 := by omega
      rcases this with rfl | rfl | rfl | rfl | rfl | rfl <;> decide
    have ha := row_getrg (z := z) (m := 13) (b := 10) (by decide) (i := i) (by omega)
    have hb := row_getrg (z := z) (m := 13) (b := 10) (by decide) (i := 6 + i) (by omega)
    walk_at "z"
    refine z_mulI (mulS (by omega) (by decide)) ?_
    walk_at "z"
    refine z_ixL (SqL.of f1) (atI_row (i := i) (by omega) (by omega)) ?_
    walk_at "z"
    refine z_mulI (mulS (by omega) (by decide)) ?_
    walk_at "z"
    refine z_ixL (SqL.of f1) (atI_row (i := 6 + i) (by omega) (by omega)) ?_
    walk_at "z"
    have e1 : (10 : Int) ^ (i + 1) = 10 * 10 ^ i := by rw [Int.pow_succ]; omega
    exact ⟨rfl, _, _, _, _, by rw [e1]; omega, rfl⟩
  · rintro σ H' ⟨rfl, x, y, k, sz, ⟨⟨x0, x1⟩, y0, y1⟩, rfl⟩
    walk_at "z"
    refine z_I ⟨by omega, by omega, by decide⟩ ?_
    walk_at "z"
    have hsz : (1 : Int) * 2 ^ ((d : Nat) : Int).toNat = 2 ^ d := by rw [Int.one_mul, Int.toNat_natCast]
    rw [hsz]
    have hp := pow2 d
    refine z_ixL (SqL.of f1) (atI_row (i := 12) (by omega) (by rfl)) ?_
    walk_at "z"
    refine z_ite (fun c => ?_) (fun c => ?_)
    · walk_at "z"
      walk_at "zt"
      rename_i T nT H3 s3 f3
      exact q H3 T _ _ (s1.trans s3) f3 (by omega)
    · walk_at "z"
      refine z_I hp ?_
      walk_at "z"
      refine z_I hp ?_
      walk_at "z"
      walk_at "zt"
      rename_i T nT H3 s3 f3
      exact q H3 T _ _ (s1.trans s3) f3 ⟨⟨Int.emod_nonneg _ (by omega), Int.emod_lt_of_pos _ hp⟩, Int.emod_nonneg _ (by omega), Int.emod_lt_of_pos _ hp⟩
def spNeedD (C N B : Addr) : Sp := fun vs H Q E => ∃ p A D ps, ∃ f d : Int, vs = [.ref p, .int f, .int d] ∧ FacesAt C H p A D ps ∧ (¬ (0 ≤ f ∧ f < ps.length) → E (.ref N) none H) ∧
  ∀ P, IsF ps f P → (¬ ((P.depth : Nat) ≤ d ∧ d ≤ 20) → E (.ref B) none H) ∧ (((P.depth : Nat) ≤ d ∧ d ≤ 20) → Q .non H)
abbrev nFaces_need_depth : List Str := ["self", "face", "depth"]
abbrev pFaces_need_depth : List Str := ["self", "face", "depth"]
theorem scFaces_need_depth : FnScope nFaces_need_depth pFaces_need_depth (defScope sFaces_need_depth) := ⟨rfl, rfl, rfl, by decide +kernel, rfl, by decide +kernel, by decide +kernel⟩
theorem ok_Faces_need_depth {P : Program} {w : World} {K : PySem.W.Frag} {mg : Str → Option Value} {base : Heap} (T : Tx w K mg) : Fk P w K mg base 2 (He.ma K (He.ga K "Faces") "need_depth") pFaces_need_depth (spNeedD (He.ga K "Faces") (He.ga K "NoFace") (He.ga K "BadDepth")) := by
  have GFaces_need := ok_Faces_need (P := P) (w := w) (base := base) T
  refine Fk.mk' T.fFaces_need_depth scFaces_need_depth (fun _ _ _ _ _ _ us hl => match us, hl with | [_, _, _], _ => rfl) (by
  intro vs H Q E h
  repeat (first | (obtain ⟨h1, _⟩ := h; subst h1; rfl) | (obtain ⟨_, h⟩ := h))) (fun cdv A outer s H vs Q E hr h => ?_)
  have hu := hu_of hr
  have hu64 := hr.units
  refine ⟨_, (pss_cons (ps_expr (q_meth (pv 0) T.cFaces T.mFaces_need GFaces_need (hr.mono (by omega)) passX (pa_cons (pv 1) pa_nil)))
  (pss_one (ps_if (PW.pt (pw_or (pt_cmpR op_lt (pv 2) (k_ix K (k_fld K (pv 0) rfl) (pv 1) (fun _ _ => rfl)) (nomark _)) (pw_or1 (pt_cmpR op_gt (pv 2) (q_int T.iFINEST) (nomark _))))) (pss_one (ps_raise rfl takesX (pmk_own PySem.F.excBase_ValueError T.eBadDepth.1 T.gBadDepth T.eBadDepth.2.1 (raises_own T.eBadDepth.2.2.1 T.eBadDepth.2.2.2) (by rfl)))) pss_nil))), ?_⟩
  try dsimp only [cxOf]
  obtain ⟨p, A, D, ps, f, d, rfl, hF, e, q⟩ := h
  obtain ⟨dx, ob⟩ := hF.ob
  walk_at "z"
  refine z_methR ob noFaces_need ?_
  walk_at "z"
  refine ⟨p, A, D, ps, f, rfl, hF, fun c => ?_, e⟩
  obtain ⟨P, hP⟩ := IsF.ex c.1 c.2
  obtain ⟨q1, q2⟩ := q P hP
  walk_at "z"
  refine z_fldR ob T.cFaces T.aFaces_depths lkFaces_depths ?_
  walk_at "z"
  refine z_ixL (SqL.of hF.depths) (FacesAt.depthAt hP) ?_
  walk_at "z"
  refine z_ite (fun c1 => ?_) (fun c1 => ?_)
  · walk_at "z"
    exact q1 (by omega)
  walk_at "z"
  refine z_ite (fun c2 => ?_) (fun c2 => ?_)
  · walk_at "z"
    exact q1 (by omega)
  walk_at "z"
  exact q2 (by omega)
def spFCell (C N B O : Addr) : Sp := fun vs H Q E => ∃ p A D ps, ∃ f d x y : Int, vs = [.ref p, .int f, .int d, .int x, .int y] ∧ FacesAt C H p A D ps ∧ (¬ (0 ≤ f ∧ f < ps.length) → E (.ref N) none H) ∧
  ∀ P, IsF ps f P → (¬ ((P.depth : Nat) ≤ d ∧ d ≤ 20) → E (.ref B) none H) ∧ (((P.depth : Nat) ≤ d ∧ d ≤ 20) →
    (¬ ((0 ≤ x ∧ x < 2 ^ d.toNat) ∧ 0 ≤ y ∧ y < 2 ^ d.toNat) → E (.ref O) none H) ∧ (((0 ≤ x ∧ x < 2 ^ d.toNat) ∧ 0 ≤ y ∧ y < 2 ^ d.toNat) → Q (.int (P.cell d.toNat x y)) H))
abbrev nFaces_cell : List Str := ["self", "face", "depth", "x", "y", "size"]
abbrev pFaces_cell : List Str := ["self", "face", "depth", "x", "y"]
theorem scFaces_cell : FnScope nFaces_cell pFaces_cell (defScope sFaces_cell) := ⟨rfl, rfl, rfl, by decide +kernel, rfl, by decide +kernel, by decide +kernel⟩
theorem ok_Faces_cell {P : Program} {w : World} {K : PySem.W.Frag} {mg : Str → Option Value} {base : Heap} (T : Tx w K mg) : Fk P w K mg base 3 (He.ma K (He.ga K "Faces") "cell") pFaces_cell (spFCell (He.ga K "Faces") (He.ga K "NoFace") (He.ga K "BadDepth") (He.ga K "NoCell")) := by
  have GFaces_need_depth := ok_Faces_need_depth (P := P) (w := w) (base := base) T
  refine Fk.mk' T.fFaces_cell scFaces_cell (fun _ _ _ _ _ _ us hl => match us, hl with | [_, _, _, _, _], _ => rfl) (by
  intro vs H Q E h
  repeat (first | (obtain ⟨h1, _⟩ := h; subst h1; rfl) | (obtain ⟨_, h⟩ := h))) (fun cdv A outer s H vs Q E hr h => ?_)
  have hu := hu_of hr
  have hu64 := hr.units
  refine ⟨_, (pss_cons (ps_expr (q_meth (pv 0) T.cFaces T.mFaces_need_depth GFaces_need_depth (hr.mono (by omega)) passX (pa_cons (pv 1) (pa_cons (pv 2) pa_nil))))
  (pss_cons (ps_set (i := 5) scFaces_cell.nd rfl (Or.inl rfl) (pe_op op_shl pe_int (pv 2)))
  (pss_cons (ps_if (PW.pt (pw_or (pt_cmpR op_lt (pv 3) pe_int (nomark _)) (pw_or (pt_cmpR op_ge (pv 3) (pv 5) (nomark _)) (pw_or (pt_cmpR op_lt (pv 4) pe_int (nomark _)) (pw_or1 (pt_cmpR op_ge (pv 4) (pv 5) (nomark _))))))) (pss_one (ps_raise rfl takesX (pmk_own PySem.F.excBase_ValueError T.eNoCell.1 T.gNoCell T.eNoCell.2.1 (raises_own T.eNoCell.2.2.1 T.eNoCell.2.2.2) (by rfl)))) pss_nil)
  (pss_cons (ps_while (passes_of rfl) (pt_cmpR op_gt (k_ix K (k_fld K (pv 0) rfl) (pv 1) (fun _ _ => rfl)) pe_int (nomark _)) (pss_cons (ps_set (i := 5) scFaces_cell.nd rfl (Or.inl rfl) (pe_op op_fdivW (pv 5) pe_int))
  (pss_cons (ps_set (i := 1) scFaces_cell.nd rfl (Or.inl rfl) (k_ix K (k_ix K (k_fld K (pv 0) rfl) (pv 1) (fun _ _ => rfl)) (pe_op (k_add K) (pe_op op_mulU pe_int (pe_op op_fdivW (pv 4) (pv 5))) (pe_op op_fdivW (pv 3) (pv 5))) (fun _ _ => rfl)))
  (pss_cons (ps_set (i := 3) scFaces_cell.nd rfl (Or.inl rfl) (pe_op op_mod (pv 3) (pv 5)))
  (pss_one (ps_set (i := 4) scFaces_cell.nd rfl (Or.inl rfl) (pe_op op_mod (pv 4) (pv 5))))))))
  (pss_one (ps_ret (k_ix K (k_ix K (k_fld K (pv 0) rfl) (pv 1) (fun _ _ => rfl)) pe_int (fun _ _ => rfl)))))))), ?_⟩
  try dsimp only [cxOf]
  obtain ⟨p, A, D, ps, f, d, x, y, rfl, hF, e, q⟩ := h
  obtain ⟨dx, ob⟩ := hF.ob
  walk_at "z"
  refine z_methR ob noFaces_need_depth ?_
  walk_at "z"
  refine ⟨p, A, D, ps, f, d, rfl, hF, e, fun P hP => ⟨(q P hP).1, fun hd => ?_⟩⟩
  obtain ⟨q1, q2⟩ := (q P hP).2 hd
  walk_at "z"
  refine z_I ⟨by omega, by omega, by decide⟩ ?_
  walk_at "z"
  have hsz : (1 : Int) * 2 ^ d.toNat = 2 ^ d.toNat := Int.one_mul _
  rw [hsz]
  refine z_ite (fun c1 => ?_) (fun c1 => ?_)
  · walk_at "z"
    exact q1 (by omega)
  walk_at "z"
  refine z_ite (fun c2 => ?_) (fun c2 => ?_)
  · walk_at "z"
    exact q1 (by omega)
  walk_at "z"
  refine z_ite (fun c3 => ?_) (fun c3 => ?_)
  · walk_at "z"
    exact q1 (by omega)
  walk_at "z"
  refine z_ite (fun c4 => ?_) (fun c4 => ?_)
  · walk_at "z"
    exact q1 (by omega)
  walk_at "z"
  have qq := q2 (by omega)
  refine z_while (fun m σ H' => H' = H ∧ ∃ (f' x' y' : Int) (s : Nat) (P' : Pic), σ = [some (.ref p), some (.int f'), some (.int d), some (.int x'), some (.int y'), some (.int (2 ^ s))] ∧ IsF ps f' P' ∧ P'.depth = m ∧ P'.depth ≤ s ∧ s ≤ 20 ∧ ((0 ≤ x' ∧ x' < 2 ^ s) ∧ 0 ≤ y' ∧ y' < 2 ^ s) ∧ P'.cell s x' y' = P.cell d.toNat x y) P.depth
    ⟨rfl, f, x, y, d.toNat, P, rfl, hP, rfl, by omega, by omega, by omega, rfl⟩ ?_
  rintro m σ H' ⟨rfl, f', x', y', s, P', rfl, hP', rfl, hs, hs20, ⟨⟨x0, x1⟩, y0, y1⟩, hcell⟩
  walk_at "z"
  refine z_fldR ob T.cFaces T.aFaces_depths lkFaces_depths ?_
  walk_at "z"
  refine z_ixL (SqL.of hF.depths) (FacesAt.depthAt hP') ?_
  walk_at "z"
  obtain ⟨ns, hn, n2, n3⟩ := hF.nodes
  have hlt : f'.toNat < ns.length := by have := hP'.1; have := hP'.lt; omega
  obtain ⟨da, ha⟩ := n3 f'.toNat _ _ (List.getElem?_eq_getElem hlt) hP'.2
  have hnd : atI (ns.map V.ref) f' = some (.ref (ns[f'.toNat])) := atI_of (n := f'.toNat) (by rw [List.getElem?_map, List.getElem?_eq_getElem hlt]; rfl) (by have := hP'.1; omega)
  generalize ns[f'.toNat] = nd at da ha hnd ⊢
  refine z_ite (fun c5 => ?_) (fun c5 => ?_)
  · refine ⟨_, fun _ _ h => h, ?_⟩
    cases P' with
    | p c => simp [Pic.depth] at c5
    | q a b c g =>
    cases s with
    | zero => simp only [Pic.depth] at hs; omega
    | succ s =>
    have hpin := hF.inv.cl _ hP'.mem
    have ma := hpin a (by simp [Pic.parts])
    have mb := hpin b (by simp [Pic.parts])
    have mc := hpin c (by simp [Pic.parts])
    have mg := hpin g (by simp [Pic.parts])
    have e2 : (2 : Int) ^ (s + 1) = 2 * 2 ^ s := by rw [Int.pow_succ]; omega
    have hh := pow2 s
    have hl := pow2_le (s := s) (n := 20) (by omega)
    have hdv : (2 : Int) ^ (s + 1) / 2 = 2 ^ s := by rw [e2]; omega
    rw [e2] at x1 y1
    simp only [Pic.cell, Nat.add_sub_cancel] at hcell
    simp only [Pic.depth] at hs
    walk_at "z"
    refine z_I ⟨by decide, by decide⟩ ?_
    walk_at "z"
    rw [hdv]
    refine z_fldR ob T.cFaces T.aFaces_nodes lkFaces_nodes ?_
    walk_at "z"
    refine z_ixL (SqL.of hn) hnd ?_
    walk_at "z"
    refine z_I (divW hh (by omega)) ?_
    walk_at "z"
    have fin : ∀ (i : Int) (R : Pic), R ∈ ps → R.depth ≤ s → 2 * (y' / 2 ^ s) + x' / 2 ^ s = i → atI ((nodeOf ps (.q a b c g)).map V.int) i = some (.int (ix ps R : Nat)) → R.depth < (Pic.q a b c g).depth → R.cell s (x' % 2 ^ s) (y' % 2 ^ s) = P.cell d.toNat x y → (2 * (y' / 2 ^ s)).natAbs < 100 →
      True := fun _ _ _ _ _ _ _ _ _ => trivial
    rcases half_of hh x0 x1 with ⟨x2, x3, x4⟩ | ⟨x2, x3, x4⟩ <;> rcases half_of hh y0 y1 with ⟨y2, y3, y4⟩ | ⟨y2, y3, y4⟩
    all_goals
      rw [y2, x2] at hcell
      simp only [y2]
      refine z_mulI (mulS (by decide) (by decide)) ?_
      walk_at "z"
      refine z_I (divW hh (by omega)) ?_
      walk_at "z"
      simp only [x2]
      refine z_ixT (SqT.of ha) (by rfl) ?_
      walk_at "z"
      refine z_I hh ?_
      walk_at "z"
      refine z_I hh ?_
      walk_at "z"
      rw [x3, y3] at hcell ⊢
    · refine ⟨_, ?_, rfl, _, _, _, s, a, rfl, IsF.ix ma, rfl, by omega, by omega, by omega, by simpa using hcell⟩
      simp only [Pic.depth]; omega
    · refine ⟨_, ?_, rfl, _, _, _, s, c, rfl, IsF.ix mc, rfl, by omega, by omega, by omega, by simpa using hcell⟩
      simp only [Pic.depth]; omega
    · refine ⟨_, ?_, rfl, _, _, _, s, b, rfl, IsF.ix mb, rfl, by omega, by omega, by omega, by simpa using hcell⟩
      simp only [Pic.depth]; omega
    · refine ⟨_, ?_, rfl, _, _, _, s, g, rfl, IsF.ix mg, rfl, by omega, by omega, by omega, by simpa using hcell⟩
      simp only [Pic.depth]; omega
  · obtain ⟨c, rfl⟩ := depth_zero (P := P') (by omega)
    walk_at "z"
    refine z_fldR ob T.cFaces T.aFaces_nodes lkFaces_nodes ?_
    walk_at "z"
    refine z_ixL (SqL.of hn) hnd ?_
    walk_at "z"
    refine z_ixT (SqT.of ha) (by rfl) ?_
    have e9 : c = P.cell d.toNat x y := hcell
    rw [e9]
    exact qq
def spFrom : Sp := fun vs H Q _ => ∃ t n x y : Int, vs = [.int t, .int n, .int x, .int y] ∧ ∀ H' q, Same H H' → H' q = some (.tup [.int (fromT t n x y).1, .int (fromT t n x y).2]) → Q (.ref q) H'
abbrev n_law_from : List Str := ["_law_turning", "_law_size", "_law_x", "_law_y", "_law_step"]
abbrev p_law_from : List Str := ["_law_turning", "_law_size", "_law_x", "_law_y"]
theorem sc_law_from : FnScope n_law_from p_law_from (defScope s_law_from) := ⟨rfl, rfl, rfl, by decide +kernel, rfl, by decide +kernel, by decide +kernel⟩
theorem ok__law_from {P : Program} {w : World} {K : PySem.W.Frag} {mg : Str → Option Value} {base : Heap} (T : Tx w K mg) : Fk P w K mg base 1 (He.ga K "_law_from") p_law_from (spFrom) := by
  refine Fk.mk' T.f_law_from sc_law_from (fun _ _ _ _ _ _ us hl => match us, hl with | [_, _, _, _], _ => rfl) (by
  intro vs H Q E h
  repeat (first | (obtain ⟨h1, _⟩ := h; subst h1; rfl) | (obtain ⟨_, h⟩ := h))) (fun cdv A outer s H vs Q E hr h => ?_)
  have hu := hu_of hr
  have hu64 := hr.units
  refine ⟨_, (pss_cons (ps_for (passes_of rfl) rfl (pi_range1 (by rfl) T.urange (pa_cons (pe_op op_mod (pv 0) pe_int) pa_nil)) (pg_name (i := 4) sc_law_from.nd rfl (Or.inl rfl)) (pss_one (ps_par (i := 2) (j := 3) (by rfl) sc_law_from.nd rfl rfl (by decide) rfl rfl (pa_cons (pv 3) (pa_cons (pe_op op_sub (pe_op op_sub (pv 1) pe_int) (pv 2)) pa_nil)) (by rfl))))
  (pss_cons (ps_if (pt_cmpR op_gt (pv 0) pe_int (nomark _)) (pss_one (ps_set (i := 2) sc_law_from.nd rfl (Or.inl rfl) (pe_op op_sub (pe_op op_sub (pv 1) pe_int) (pv 2)))) pss_nil)
  (pss_one (ps_ret (pe_tup (pa_cons (pv 2) (pa_cons (pv 3) pa_nil))))))), ?_⟩
  try dsimp only [cxOf]
  obtain ⟨t, n, x, y, rfl, q⟩ := h
  have h0 : 0 ≤ t % 4 := Int.emod_nonneg _ (by decide)
  have h4 : t % 4 < 4 := Int.emod_lt_of_pos _ (by decide)
  unfold fromT at q
  walk_at "z"
  refine z_I (by decide) ?_
  walk_at "z"
  refine ⟨_, rfl, by omega, by omega, ?_⟩
  refine for_range (fun i σ H' => H' = H ∧ ∃ st, σ = [some (.int t), some (.int n), some (.int (fromI i n (x, y)).1), some (.int (fromI i n (x, y)).2), st]) ⟨rfl, none, rfl⟩ ?_ ?_
  · rintro i σ H' hi ⟨rfl, st, rfl⟩
    walk_at "z"
    exact ⟨rfl, _, rfl⟩
  · rintro σ H' ⟨rfl, st, rfl⟩
    walk_at "z"
    refine z_ite (fun c => ?_) (fun c => ?_)
    · walk_at "z"
      walk_at "zt"
      rename_i T nT H3 s3 f3
      exact q H3 T s3 (by rw [f3, if_pos c])
    · walk_at "z"
      walk_at "zt"
      rename_i T nT H3 s3 f3
      exact q H3 T s3 (by rw [f3, if_neg c])
def spShade : Sp := fun vs H Q _ => ∃ (nl : Addr) (Ps : List Pic) (nds : List Nd) (a t : Int) (d : Nat) (x y : Int) (P : Pic), vs = [.ref nl, .int a, .int t, .int (d : Nat), .int x, .int y] ∧ NodesL H nl Ps nds ∧ 0 ≤ a ∧ Ps[a.toNat]? = some P ∧ (0 ≤ t ∧ t < 8) ∧ P.depth ≤ d ∧ d ≤ 20 ∧
  ((0 ≤ x ∧ x < 2 ^ d) ∧ 0 ≤ y ∧ y < 2 ^ d) ∧ ∀ H', Same H H' → Q (.int ((P.turn t).cell d x y)) H'
abbrev n_law_shade : List Str := ["_law_nodes_here", "_law_at", "_law_turning", "_law_depth", "_law_x", "_law_y", "_law_size", "_law_step"]
abbrev p_law_shade : List Str := ["_law_nodes_here", "_law_at", "_law_turning", "_law_depth", "_law_x", "_law_y"]
theorem sc_law_shade : FnScope n_law_shade p_law_shade (defScope s_law_shade) := ⟨rfl, rfl, rfl, by decide +kernel, rfl, by decide +kernel, by decide +kernel⟩
theorem ok__law_shade {P : Program} {w : World} {K : PySem.W.Frag} {mg : Str → Option Value} {base : Heap} (T : Tx w K mg) : Fk P w K mg base 2 (He.ga K "_law_shade") p_law_shade (spShade) := by
  have G_law_from := ok__law_from (P := P) (w := w) (base := base) T
  refine Fk.mk' T.f_law_shade sc_law_shade (fun _ _ _ _ _ _ us hl => match us, hl with | [_, _, _, _, _, _], _ => rfl) (by
  intro vs H Q E h
  repeat (first | (obtain ⟨h1, _⟩ := h; subst h1; rfl) | (obtain ⟨_, h⟩ := h))) (fun cdv A outer s H vs Q E hr h => ?_)
  have hu := hu_of hr
  have hu64 := hr.units
  refine ⟨_, (pss_cons (ps_set (i := 6) sc_law_shade.nd rfl (Or.inl rfl) (pe_op op_shl pe_int (pv 3)))
  (pss_cons (ps_for (passes_of rfl) rfl (pi_range1 (by rfl) T.urange (pa_cons (pe_op (k_add K) (pv 3) pe_int) pa_nil)) (pg_name (i := 7) sc_law_shade.nd rfl (Or.inl rfl)) (pss_cons (ps_asg (q_call G_law_from (hr.mono (by omega)) T.g_law_from passX (pa_cons (pv 2) (pa_cons (pv 6) (pa_cons (pv 4) (pa_cons (pv 5) pa_nil))))) (k_pgt (n := 2) K rfl (pgs_cons (pg_name (i := 4) sc_law_shade.nd rfl (Or.inl rfl)) (pgs_cons (pg_name (i := 5) sc_law_shade.nd rfl (Or.inl rfl)) pgs_nil))))
  (pss_cons (ps_if (pt_cmpR (k_eq K hu64) (pe_callB (k_len K) (by rfl) T.ulen (by decide +kernel) (pa_cons (k_ix K (pv 0) (pv 1) (fun _ _ => rfl)) pa_nil)) pe_int (nomark _)) (pss_one (ps_ret (k_ix K (k_ix K (pv 0) (pv 1) (fun _ _ => rfl)) pe_int (fun _ _ => rfl)))) pss_nil)
  (pss_cons (ps_set (i := 6) sc_law_shade.nd rfl (Or.inl rfl) (pe_op op_fdivW (pv 6) pe_int))
  (pss_cons (ps_asg (k_ix K (k_ix K (pv 0) (pv 1) (fun _ _ => rfl)) (pe_op (k_add K) (pe_op op_mulU pe_int (pe_op op_fdivW (pv 5) (pv 6))) (pe_op op_fdivW (pv 4) (pv 6))) (fun _ _ => rfl)) (k_pgt (n := 2) K rfl (pgs_cons (pg_name (i := 1) sc_law_shade.nd rfl (Or.inl rfl)) (pgs_cons (pg_name (i := 2) sc_law_shade.nd rfl (Or.inl rfl)) pgs_nil))))
  (pss_cons (ps_set (i := 4) sc_law_shade.nd rfl (Or.inl rfl) (pe_op op_mod (pv 4) (pv 6)))
  (pss_one (ps_set (i := 5) sc_law_shade.nd rfl (Or.inl rfl) (pe_op op_mod (pv 5) (pv 6))))))))))
  (pss_one (ps_ret (pe_un un_neg pe_int))))), ?_⟩
  try dsimp only [cxOf]
  obtain ⟨nl, Ps, nds, a, t, d, x, y, P, rfl, hN, ha0, hP, ht, hd, hd20, hxy, q⟩ := h
  walk_at "z"
  refine z_I ⟨by omega, by omega, by decide⟩ ?_
  walk_at "z"
  have hsz : (1 : Int) * 2 ^ ((d : Nat) : Int).toNat = 2 ^ d := by rw [Int.one_mul, Int.toNat_natCast]
  rw [hsz]
  refine ⟨_, rfl, by omega, by omega, ?_⟩
  have hn : (((d : Nat) : Int) + 1).toNat = d + 1 := by omega
  rw [hn]
  refine for_range (lo := 0) (n := d + 1) (fun i σ H' => Same H H' ∧ i ≤ d ∧ ∃ (a' t' x' y' : Int) (P' : Pic) (st : Option V), σ = [some (.ref nl), some (.int a'), some (.int t'), some (.int (d : Nat)), some (.int x'), some (.int y'), some (.int (2 ^ (d - i))), st] ∧ 0 ≤ a' ∧ Ps[a'.toNat]? = some P' ∧ (0 ≤ t' ∧ t' < 8) ∧ P'.depth ≤ d - i ∧
      ((0 ≤ x' ∧ x' < 2 ^ (d - i)) ∧ 0 ≤ y' ∧ y' < 2 ^ (d - i)) ∧ (P'.turn t').cell (d - i) x' y' = (P.turn t).cell d x y)
    ⟨Same.refl _, Nat.zero_le _, a, t, x, y, P, none, rfl, ha0, hP, ht, hd, hxy, rfl⟩ ?_ ?_
  · rintro i σ H' hi ⟨s1, hid, a', t', x', y', P', st, rfl, ha', hP', ⟨t0, t8⟩, hd', ⟨⟨x0, x1⟩, y0, y1⟩, hcell⟩
    walk_at "z"
    refine ⟨t', _, x', y', rfl, fun H2 r s2 f2 => ?_⟩
    refine z_gTup (SqT.of f2) rfl ?_
    have hfr := fromT_rg (t := t') x0 x1 y0 y1
    rw [cell_turn t0 t8 P' (d - i) x' y' hd' x0 x1 y0 y1] at hcell
    generalize (fromT t' (2 ^ (d - i)) x' y').1 = u at hfr hcell ⊢
    generalize (fromT t' (2 ^ (d - i)) x' y').2 = v at hfr hcell ⊢
    obtain ⟨⟨u0, u1⟩, v0, v1⟩ := hfr
    have s12 := s1.trans s2
    obtain ⟨ws, nq, xs, n, h1, h2, h3, h4, h5, h6, h7⟩ := (hN.same s12).get hP'
    have hat : atI ws a' = some (.ref nq) := atI_of h3 (by omega)
    walk_at "z"
    refine z_ixL (SqL.of h1) hat ?_
    walk_at "z"
    refine z_lenT (SqT.of h4) ?_
    walk_at "z"
    rcases h7 with ⟨c, rfl, rfl, rfl⟩ | ⟨pa, pb, pc, pd, rfl, rfl, hr, hl4, hall⟩
    · refine z_yes (by rfl) ?_
      walk_at "z"
      refine z_ixL (SqL.of h1) hat ?_
      walk_at "z"
      refine z_ixT (SqT.of h4) (by rfl) ?_
      have e9 : c = (P.turn t).cell d x y := hcell
      rw [e9]
      exact q H2 s12
    · refine z_no (by rw [hl4]; decide) ?_
      obtain ⟨s, hs⟩ : ∃ s, d - i = s + 1 := ⟨d - i - 1, by simp only [Pic.depth] at hd'; omega⟩
      rw [hs] at hd' u1 v1 hcell ⊢
      have e2 : (2 : Int) ^ (s + 1) = 2 * 2 ^ s := by rw [Int.pow_succ]; omega
      have hh := pow2 s
      have hl := pow2_le (s := s) (n := 20) (by omega)
      have hdv : (2 : Int) ^ (s + 1) / 2 = 2 ^ s := by rw [e2]; omega
      have hsi : d - (i + 1) = s := by omega
      rw [e2] at u1 v1
      simp only [Pic.cell, Nat.add_sub_cancel] at hcell
      simp only [Pic.depth] at hd'
      walk_at "z"
      refine z_I ⟨by decide, by decide⟩ ?_
      walk_at "z"
      rw [hdv]
      refine z_ixL (SqL.of h1) hat ?_
      walk_at "z"
      refine z_I (divW hh (by omega)) ?_
      walk_at "z"
      have go : ∀ (k : Nat) (z : Int × Int), ([pa, pb, pc, pd] : List (Int × Int))[k]? = some z → ∃ w r, xs[k]? = some (.ref w) ∧ H2 w = some (.tup [.int z.1, .int z.2]) ∧ Ps[z.1.toNat]? = some r ∧ atP Ps z = r.turn z.2 ∧ (0 ≤ z.1 ∧ 0 ≤ z.2 ∧ z.2 < 8) := by
        intro k z e
        obtain ⟨vv, e1, e3⟩ := DvAll.at (i := k) (d := pairD z) hall (by
          have : ([pa, pb, pc, pd].map pairD)[k]? = some (pairD z) := by rw [List.getElem?_map, e]; rfl
          exact this)
        obtain ⟨w, rfl, hw⟩ := pair_of e3
        have hz := hr z (List.mem_of_getElem? e)
        obtain ⟨r, hr1, hr2⟩ := atP_get hz.1
        exact ⟨w, r, e1, hw, hr1, hr2, hz.1.1, hz.2⟩
      obtain ⟨wa, ra, a1, a2, a3, a4, a5⟩ := go 0 pa rfl
      obtain ⟨wb, rb, b1, b2, b3, b4, b5⟩ := go 1 pb rfl
      obtain ⟨wc, rc, c1, c2, c3, c4, c5⟩ := go 2 pc rfl
      obtain ⟨wd, rd, d1, d2, d3, d4, d5⟩ := go 3 pd rfl
      have da := turn_depth a5.2.1 a5.2.2 ra
      have db := turn_depth b5.2.1 b5.2.2 rb
      have dc := turn_depth c5.2.1 c5.2.2 rc
      have dd := turn_depth d5.2.1 d5.2.2 rd
      rw [a4, b4, c4, d4] at hd' hcell
      rcases half_of hh u0 u1 with ⟨x2, x3, x4⟩ | ⟨x2, x3, x4⟩ <;> rcases half_of hh v0 v1 with ⟨y2, y3, y4⟩ | ⟨y2, y3, y4⟩
      all_goals
        rw [y2, x2] at hcell
        simp only [y2]
        refine z_mulI (mulS (by decide) (by decide)) ?_
        walk_at "z"
        refine z_I (divW hh (by omega)) ?_
        walk_at "z"
        simp only [x2]
      · refine z_ixT (SqT.of h4) (atI_of (n := 0) a1 (by rfl)) ?_
        refine z_gTup (SqT.of a2) rfl ?_
        walk_at "z"
        refine z_I hh ?_
        walk_at "z"
        refine z_I hh ?_
        walk_at "z"
        rw [x3, y3] at hcell ⊢
        refine ⟨s12, by omega, _, _, _, _, ra, _, by rw [hsi], a5.1, a3, a5.2, by rw [hsi]; omega, by rw [hsi]; omega, by rw [hsi]; simpa using hcell⟩
      · refine z_ixT (SqT.of h4) (atI_of (n := 2) c1 (by rfl)) ?_
        refine z_gTup (SqT.of c2) rfl ?_
        walk_at "z"
        refine z_I hh ?_
        walk_at "z"
        refine z_I hh ?_
        walk_at "z"
        rw [x3, y3] at hcell ⊢
        refine ⟨s12, by omega, _, _, _, _, rc, _, by rw [hsi], c5.1, c3, c5.2, by rw [hsi]; omega, by rw [hsi]; omega, by rw [hsi]; simpa using hcell⟩
      · refine z_ixT (SqT.of h4) (atI_of (n := 1) b1 (by rfl)) ?_
        refine z_gTup (SqT.of b2) rfl ?_
        walk_at "z"
        refine z_I hh ?_
        walk_at "z"
        refine z_I hh ?_
        walk_at "z"
        rw [x3, y3] at hcell ⊢
        refine ⟨s12, by omega, _, _, _, _, rb, _, by rw [hsi], b5.1, b3, b5.2, by rw [hsi]; omega, by rw [hsi]; omega, by rw [hsi]; simpa using hcell⟩
      · refine z_ixT (SqT.of h4) (atI_of (n := 3) d1 (by rfl)) ?_
        refine z_gTup (SqT.of d2) rfl ?_
        walk_at "z"
        refine z_I hh ?_
        walk_at "z"
        refine z_I hh ?_
        walk_at "z"
        rw [x3, y3] at hcell ⊢
        refine ⟨s12, by omega, _, _, _, _, rd, _, by rw [hsi], d5.1, d3, d5.2, by rw [hsi]; omega, by rw [hsi]; omega, by rw [hsi]; simpa using hcell⟩
  · rintro σ H' ⟨s1, hid, _⟩
    omega
def spSure (C : Addr) : Sp := fun vs H Q _ => ∃ (p : Addr) (A : FA) (D : Addr → Prop) (ps : List Pic) (nl : Addr) (Ps : List Pic) (nds : List Nd) (f a t z : Int) (d : Nat) (P : Pic), vs = [.ref p, .ref nl, .int f, .int a, .int t, .int z, .int (d : Nat)] ∧ FacesAt C H p A D ps ∧ NodesL H nl Ps nds ∧
  IsF ps f (P.turn t) ∧ 0 ≤ a ∧ Ps[a.toNat]? = some P ∧ (0 ≤ t ∧ t < 8) ∧ P.depth ≤ d ∧ d ≤ 20 ∧ ∀ H', Same H H' → Q (.bl true) H'
abbrev n_law_sure : List Str := ["_law_faces", "_law_nodes_here", "_law_told", "_law_at", "_law_turning", "_law_cell_here", "_law_depth", "_law_x", "_law_y"]
abbrev p_law_sure : List Str := ["_law_faces", "_law_nodes_here", "_law_told", "_law_at", "_law_turning", "_law_cell_here", "_law_depth"]
theorem sc_law_sure : FnScope n_law_sure p_law_sure (defScope s_law_sure) := ⟨rfl, rfl, rfl, by decide +kernel, rfl, by decide +kernel, by decide +kernel⟩
theorem ok__law_sure {P : Program} {w : World} {K : PySem.W.Frag} {mg : Str → Option Value} {base : Heap} (T : Tx w K mg) : Fk P w K mg base 10 (He.ga K "_law_sure") p_law_sure (spSure (He.ga K "Faces")) := by
  have G_law_spot := ok__law_spot (P := P) (w := w) (base := base) T
  have G_law_like := ok__law_like (P := P) (w := w) (base := base) T 8
  have GFaces_cell := ok_Faces_cell (P := P) (w := w) (base := base) T
  have G_law_shade := ok__law_shade (P := P) (w := w) (base := base) T
  refine Fk.mk' T.f_law_sure sc_law_sure (fun _ _ _ _ _ _ us hl => match us, hl with | [_, _, _, _, _, _, _], _ => rfl) (by
  intro vs H Q E h
  repeat (first | (obtain ⟨h1, _⟩ := h; subst h1; rfl) | (obtain ⟨_, h⟩ := h))) (fun cdv A outer s H vs Q E hr h => ?_)
  have hu := hu_of hr
  have hu64 := hr.units
  refine ⟨_, (pss_cons (ps_asg (q_call G_law_spot (hr.mono (by omega)) T.g_law_spot passX (pa_cons (pv 5) (pa_cons (pv 6) pa_nil))) (k_pgt (n := 2) K rfl (pgs_cons (pg_name (i := 7) sc_law_sure.nd rfl (Or.inl rfl)) (pgs_cons (pg_name (i := 8) sc_law_sure.nd rfl (Or.inl rfl)) pgs_nil))))
  (pss_one (ps_ret (q_call G_law_like (hr.mono (by omega)) T.g_law_like passX (pa_cons (q_meth (pv 0) T.cFaces T.mFaces_cell GFaces_cell (hr.mono (by omega)) passX (pa_cons (pv 2) (pa_cons (pv 6) (pa_cons (pv 7) (pa_cons (pv 8) pa_nil))))) (pa_cons (q_call G_law_shade (hr.mono (by omega)) T.g_law_shade passX (pa_cons (pv 1) (pa_cons (pv 3) (pa_cons (pv 4) (pa_cons (pv 6) (pa_cons (pv 7) (pa_cons (pv 8) pa_nil))))))) pa_nil)))))), ?_⟩
  try dsimp only [cxOf]
  obtain ⟨p, A, D, ps, nl, Ps, nds, f, a, t, z, d, P, rfl, hF, hN, hf, ha, hP, ht, hd, hd20, q⟩ := h
  walk_at "z"
  refine ⟨z, d, rfl, hd20, fun H1 r x y s1 f1 hxy => ?_⟩
  refine z_gTup (SqT.of f1) rfl ?_
  have hF1 := hF.same s1
  obtain ⟨dx1, ob1⟩ := hF1.ob
  have htd := turn_depth ht.1 ht.2 P
  walk_at "z"
  refine z_methR ob1 noFaces_cell ?_
  walk_at "z"
  have en : ((d : Nat) : Int).toNat = d := Int.toNat_natCast d
  refine ⟨p, A, D, ps, f, (d : Nat), x, y, rfl, hF1, fun no => absurd ⟨hf.1, hf.lt⟩ no, fun P2 hP2 => ⟨fun no => absurd ⟨by rw [hP2.inj hf, htd]; omega, by omega⟩ no, fun _ => ⟨fun no => absurd (by rw [en]; exact hxy) no, fun _ => ?_⟩⟩⟩
  obtain rfl := hP2.inj hf
  rw [en]
  walk_at "z"
  refine ⟨nl, Ps, nds, a, t, d, x, y, P, rfl, hN.same s1, ha, hP, ht, hd, hd20, hxy, fun H2 s2 => ?_⟩
  walk_at "z"
  exact ⟨_, _, .int _, rfl, .int _, .int _, by simp [dpt], fun H3 s3 => q H3 (s1.trans (s2.trans s3))⟩
def cell (ns : List Int) (k : Nat) : Int := ns.getD k 0
def spCell (K : PySem.W.Frag) : Sp := fun vs H Q _ => ∃ (a : Addr) (ns : List Int) (k : Nat), vs = [.ref a, .int k] ∧ SqL K H a (ns.map V.int) ∧ Q (.int (cell ns k)) H
abbrev n_law_cell : List Str := ["_law_script", "_law_k"]
abbrev p_law_cell : List Str := ["_law_script", "_law_k"]
theorem sc_law_cell : FnScope n_law_cell p_law_cell (defScope s_law_cell) := ⟨rfl, rfl, rfl, by decide +kernel, rfl, by decide +kernel, by decide +kernel⟩
theorem ok__law_cell {P : Program} {w : World} {K : PySem.W.Frag} {mg : Str → Option Value} {base : Heap} (T : Tx w K mg) : Fk P w K mg base 1 (He.ga K "_law_cell") p_law_cell (spCell K) := by
  refine Fk.mk' T.f_law_cell sc_law_cell (fun _ _ _ _ _ _ us hl => match us, hl with | [_, _], _ => rfl) (by
  intro vs H Q E h
  repeat (first | (obtain ⟨h1, _⟩ := h; subst h1; rfl) | (obtain ⟨_, h⟩ := h))) (fun cdv A outer s H vs Q E hr h => ?_)
  have hu := hu_of hr
  have hu64 := hr.units
  refine ⟨_, (pss_cons (ps_if (pt_cmpR op_lt (pv 1) (pe_callB (k_len K) (by rfl) T.ulen (by decide +kernel) (pa_cons (pv 0) pa_nil)) (nomark _)) (pss_one (ps_ret (k_ix K (pv 0) (pv 1) (fun _ _ => rfl)))) pss_nil)
  (pss_one (ps_ret pe_int))), ?_⟩
  try dsimp only [cxOf]
  obtain ⟨a, ns, k, rfl, hs, q⟩ := h
  walk_at "z"
  refine z_lenL hs ?_
  walk_at "z"
  rw [List.length_map]
  refine z_ite (fun c => ?_) (fun c => ?_)
  · walk_at "z"
    refine z_ixL hs (atI_of (n := k) (v := .int (cell ns k)) ?_ rfl) q
    have hk : k < ns.length := by omega
    rw [List.getElem?_map, List.getElem?_eq_getElem hk]
    simp [cell, hk]
  · walk_at "z"
    have e : cell ns k = 0 := by simp [cell]; rw [List.getElem?_eq_none (by omega)]; rfl
    rw [e] at q
    exact q
theorem dpt_ints : ∀ l : List Int, dptAll (l.map PyData.int) = 0
  | [] => rfl
  | x :: l => by simp [dptAll, dpt, dpt_ints l]
theorem dpt_intsL (l : List Int) : dpt (.list (l.map PyData.int)) = 1 := by simp [dpt, dpt_ints]

abbrev nlaw : List Str := ["_law_script", "_law_faces", "_law_cells", "_law_nodes_here", "_law_deeps", "_law_told", "_law_before", "_law_face", "_law_kinds", "_law_k", "_law_again", "_law_other", "_law_colour", "_law_back", "_law_front", "_law_at"]
abbrev plaw : List Str := ["_law_script"]
theorem sclaw : FnScope nlaw plaw (defScope slaw) := ⟨rfl, rfl, rfl, by decide +kernel, rfl, by decide +kernel, by decide +kernel⟩
theorem ok_law {P : Program} {w : World} {K : PySem.W.Frag} {mg : Str → Option Value} {base : Heap} (T : Tx w K mg) {fd : FuncData} (F : FunD K "law" "law" (defArgs slaw) (defBody slaw) (defScope slaw) [] [] (He.ga K "law") fd) :
    FnOk P w K mg base (L2.CX P w) 18 (He.ga K "law") fd plaw (spLaw K) := by
  have GFaces___init__ := ok_Faces___init__ (P := P) (w := w) (base := base) T
  have G_law_nodes := ok__law_nodes (P := P) (w := w) (base := base) T
  have GFaces_kind := ok_Faces_kind (P := P) (w := w) (base := base) T
  have G_law_numbered := ok__law_numbered (P := P) (w := w) (base := base) T
  have GFaces_plain := ok_Faces_plain (P := P) (w := w) (base := base) T
  have G_law_like := ok__law_like (P := P) (w := w) (base := base) T 8
  have GFaces_depth := ok_Faces_depth (P := P) (w := w) (base := base) T
  have G_law_sure := ok__law_sure (P := P) (w := w) (base := base) T
  have G_law_cell := ok__law_cell (P := P) (w := w) (base := base) T
  refine F.ok (CX := L2.CX P w) sclaw (by
    intro vs H Q E h
    repeat (first | (obtain ⟨h1, _⟩ := h; subst h1; rfl) | (obtain ⟨_, h⟩ := h))) (fun cdv A outer s H vs Q E hr h => ?_)
  have hu := hu_of hr
  have hu64 := hr.units
  refine ⟨_, (pss_cons (ps_set (i := 1) sclaw.nd rfl (Or.inr rfl) (q_make0 T.kFaces GFaces___init__ (hr.mono (by omega)) T.gFaces passX))
  (pss_cons (ps_set (i := 2) sclaw.nd rfl (Or.inl rfl) (pe_slice (k_sll K) (pv 0) (po_some pe_int) (po_some pe_int)))
  (pss_cons (ps_asg (q_call G_law_nodes (hr.mono (by omega)) T.g_law_nodes passX (pa_cons (pv 1) (pa_cons (pv 2) pa_nil))) (k_pgt (n := 3) K rfl (pgs_cons (pg_name (i := 3) sclaw.nd rfl (Or.inl rfl)) (pgs_cons (pg_name (i := 4) sclaw.nd rfl (Or.inl rfl)) (pgs_cons (pg_name (i := 5) sclaw.nd rfl (Or.inl rfl)) pgs_nil)))))
  (pss_cons (ps_set (i := 6) sclaw.nd rfl (Or.inl rfl) (pe_callTy (k_list K) (by rfl) T.ulist (by decide +kernel) (pa_cons (pv 5) pa_nil)))
  (pss_cons (ps_setLc (i := 8) (own := [("_law_face", 7)]) (g := gName 7) rfl sclaw.nd rfl rfl (sw_true rfl rfl rfl (by decide +kernel)) (k_pil K (pv 5)) (blkOk_by (own := [("_law_face", 7)]) (N := nlaw) (sc := defScope slaw) (by decide +kernel)) (fun _ _ _ _ _ => pg_name (i := 7) sclaw.nd rfl (Or.inl rfl)) (fun _ _ _ _ _ => pts_nil) (fun _ _ _ _ _ => (q_meth (pv 1) T.cFaces T.mFaces_kind GFaces_kind (hr.mono (by omega)) passL (pa_cons (pv 7) pa_nil))))
  (pss_cons (ps_expr (q_call G_law_nodes (hr.mono (by omega)) T.g_law_nodes passX (pa_cons (pv 1) (pa_cons (pe_lc (own := [("_law_k", 9)]) (g := gName 9) rfl sclaw.nd (pi_range1 (by rfl) T.urange (pa_cons pe_int pa_nil)) (blkOk_by (own := [("_law_k", 9)]) (N := nlaw) (sc := defScope slaw) (by decide +kernel)) (fun _ _ _ _ _ => pg_name (i := 9) sclaw.nd rfl (Or.inl rfl)) (fun _ _ _ _ _ => pts_nil) (fun _ _ _ _ _ => (pe_op (k_add K) (q_call G_law_cell (hr.mono (by omega)) T.g_law_cell passL (pa_cons (pv 0) (pa_cons (pe_op (k_add K) pe_int (pv 9)) pa_nil))) pe_int))) pa_nil))))
  (pss_cons (ps_set (i := 10) sclaw.nd rfl (Or.inl rfl) (q_call G_law_nodes (hr.mono (by omega)) T.g_law_nodes passX (pa_cons (pv 1) (pa_cons (pv 2) pa_nil))))
  (pss_cons (ps_if (PW.pt (pw_or (pt_not (pt_val (q_call G_law_like (hr.mono (by omega)) T.g_law_like passX (pa_cons (k_ix K (pv 10) pe_int (fun _ _ => rfl)) (pa_cons (pv 6) pa_nil))))) (pw_or1 (pt_not (pt_val (q_call G_law_like (hr.mono (by omega)) T.g_law_like passX (pa_cons (pe_lc (own := [("_law_face", 7)]) (g := gName 7) rfl sclaw.nd (k_pil K (pv 5)) (blkOk_by (own := [("_law_face", 7)]) (N := nlaw) (sc := defScope slaw) (by decide +kernel)) (fun _ _ _ _ _ => pg_name (i := 7) sclaw.nd rfl (Or.inl rfl)) (fun _ _ _ _ _ => pts_nil) (fun _ _ _ _ _ => (q_meth (pv 1) T.cFaces T.mFaces_kind GFaces_kind (hr.mono (by omega)) passL (pa_cons (pv 7) pa_nil)))) (pa_cons (pv 8) pa_nil)))))))) (pss_one (ps_ret pe_bl)) pss_nil)
  (pss_cons (ps_if (pt_not (pt_val (q_call G_law_numbered (hr.mono (by omega)) T.g_law_numbered passX (pa_cons (pv 1) (pa_cons (pv 5) pa_nil))))) (pss_one (ps_ret pe_bl)) pss_nil)
  (pss_cons (ps_set (i := 11) sclaw.nd rfl (Or.inl rfl) (q_make0 T.kFaces GFaces___init__ (hr.mono (by omega)) T.gFaces passX))
  (pss_cons (ps_for (passes_of rfl) rfl (pi_range3 (by rfl) T.urange (pa_cons pe_int (pa_cons (pe_un un_neg pe_int) (pa_cons (pe_un un_neg pe_int) pa_nil)))) (pg_name (i := 12) sclaw.nd rfl (Or.inl rfl)) (pss_one (ps_expr (q_meth (pv 11) T.cFaces T.mFaces_plain GFaces_plain (hr.mono (by omega)) passX (pa_cons (pv 12) pa_nil)))))
  (pss_cons (ps_set (i := 13) sclaw.nd rfl (Or.inl rfl) (q_call G_law_nodes (hr.mono (by omega)) T.g_law_nodes passX (pa_cons (pv 11) (pa_cons (k_revL K (pv 2)) pa_nil))))
  (pss_cons (ps_set (i := 14) sclaw.nd rfl (Or.inl rfl) (q_call G_law_nodes (hr.mono (by omega)) T.g_law_nodes passX (pa_cons (pv 11) (pa_cons (pv 2) pa_nil))))
  (pss_cons (ps_for (passes_of rfl) rfl (pi_range1 (by rfl) T.urange (pa_cons (pe_callB (k_len K) (by rfl) T.ulen (by decide +kernel) (pa_cons (pv 3) pa_nil)) pa_nil)) (pg_name (i := 15) sclaw.nd rfl (Or.inl rfl)) (pss_cons (ps_if (pt_cmpR (k_ne K hu64) (q_meth (pv 11) T.cFaces T.mFaces_depth GFaces_depth (hr.mono (by omega)) passX (pa_cons (k_ix K (k_ix K (pv 14) pe_int (fun _ _ => rfl)) (pv 15) (fun _ _ => rfl)) pa_nil)) (k_ix K (pv 4) (pv 15) (fun _ _ => rfl)) (nomark _)) (pss_one (ps_ret pe_bl)) pss_nil)
  (pss_cons (ps_if (pt_not (pt_val (q_call G_law_sure (hr.mono (by omega)) T.g_law_sure passX (pa_cons (pv 11) (pa_cons (pv 3) (pa_cons (k_ix K (k_ix K (pv 14) pe_int (fun _ _ => rfl)) (pv 15) (fun _ _ => rfl)) (pa_cons (pv 15) (pa_cons pe_int (pa_cons (pe_op (k_add K) (q_call G_law_cell (hr.mono (by omega)) T.g_law_cell passX (pa_cons (pv 0) (pa_cons pe_int pa_nil))) (pv 15)) (pa_cons (k_ix K (pv 4) (pv 15) (fun _ _ => rfl)) pa_nil)))))))))) (pss_one (ps_ret pe_bl)) pss_nil)
  (pss_one (ps_if (pt_not (pt_val (q_call G_law_sure (hr.mono (by omega)) T.g_law_sure passX (pa_cons (pv 1) (pa_cons (pv 3) (pa_cons (k_ix K (pv 5) (pv 15) (fun _ _ => rfl)) (pa_cons (pv 15) (pa_cons pe_int (pa_cons (pe_op (k_add K) (q_call G_law_cell (hr.mono (by omega)) T.g_law_cell passX (pa_cons (pv 0) (pa_cons pe_int pa_nil))) (pv 15)) (pa_cons (k_ix K (pv 4) (pv 15) (fun _ _ => rfl)) pa_nil)))))))))) (pss_one (ps_ret pe_bl)) pss_nil)))))
  (pss_one (ps_ret (pe_cmpR op_ge (pe_callB (k_len K) (by rfl) T.ulen (by decide +kernel) (pa_cons (k_ix K (pv 13) pe_int (fun _ _ => rfl)) pa_nil)) pe_int (nomark _)))))))))))))))))), ?_⟩
  try dsimp only [cxOf]
  obtain ⟨a, ns, rfl, hs, hlen, hbits, q⟩ := h
  walk_at "z"
  refine z_mkFaces fun H1 p A D0 s1 hF0 hD0 => ?_
  walk_at "z"
  obtain ⟨ms, ecut, hml⟩ := cut_ints ns (some 1) (some 13)
  refine z_slL (s1.seq hs) ecut ?_
  walk_at "zn"
  rename_i l hl0 H2 s2 f2
  walk_at "z"
  have hF2 := hF0.same s2
  refine ⟨p, A, D0, l, ms, [], [], rfl, hF2, (fun P h => by cases h), by simp, f2, hF0.nd hl0, by omega, fun H3 r nl dl tl D3 qs3 nds kp3 fr3 hr st3 hPl hfr => ?_⟩
  have foot0 : ∀ b, A.foot b → H b = none := fun b hb => hD0 b (hF0.df b hb)
  have kp03 : Keep A.foot H H3 := (s1.trans s2).keep.trans kp3
  rw [List.nil_append] at st3
  refine z_gTup (SqT.of hr) rfl ?_
  walk_at "z"
  obtain ⟨fl3, nlD3⟩ := hF2.mv kp3 fr3 f2 (hF0.nd hl0)
  generalize hPs : runP ms = Ps at st3 hPl
  refine z_listL (SqL.of st3.td) ?_
  walk_at "zn"
  rename_i B nB H4 s4 fB4
  have st4 := st3.same s4
  have nBD3 : ¬ D3 B := st3.F.nd nB
  have fl4 := s4 _ _ fl3
  have kp04 := kp03.trans s4.keep
  walk_at "z"
  refine ⟨tl, rfl, ⟨_, SqL.of st4.td⟩, fun L hL => ?_⟩
  have L1 : L ≠ nl := fun e => by obtain ⟨_, ⟨vs, hv, _⟩, _⟩ := st4.N; rw [← e, hL] at hv; cases hv
  have L2 : L ≠ dl := fun e => by have := st4.dp; rw [← e, hL] at this; cases this
  have L3 : L ≠ tl := fun e => by have := st4.td; rw [← e, hL] at this; cases this
  have nL4 : ¬ D3 L := st4.F.nd hL
  have lift : ∀ {P : Pic}, P ∈ qs3 → ∀ zs : List Pic, IsF (qs3 ++ zs) (ix qs3 P : Nat) P := fun h zs => (IsF.ix h).app
  refine lc_list (K := K) (a := tl) (xs := Ps.map fun P => V.int (ix qs3 P : Nat)) (fun i H' => ∃ qs D', StandG ([]) (He.ga K "Faces") H' p A D' (qs3 ++ qs) nl dl tl Ps nds ∧ Keep A.foot H4 H' ∧ (∀ b, D' b → D3 b ∨ H4 b = none) ∧ ¬ D' L ∧ H' L = some (.lst ((Ps.take i).map fun P => V.int (kindN (qs3 ++ qs) P : Nat))) ∧ ∀ P ∈ Ps.take i, AllT (qs3 ++ qs) P)
    ⟨[], D3, by rw [List.append_nil]; exact st4.same (Same.new hL), (Keep.refl _ _).setNew hL, fun b h => .inl h, nL4, upd_same, fun P h => by simp at h⟩ (fun i H' _ h => by obtain ⟨_, _, _, kp, _⟩ := h; exact SqL.of (kp _ _ st4.td (st4.F.ofFoot st4.nt))) ?_ ?_
  · rintro i x H' hi ⟨qs, D', st', kp', fr', nL', fL', all'⟩
    rw [List.getElem?_map] at hi
    cases ei : Ps[i]? with
    | none => rw [ei] at hi; cases hi
    | some P =>
      rw [ei] at hi
      obtain rfl := Option.some.inj hi
      have hPm := List.mem_of_getElem? ei
      have hiP : i < Ps.length := (List.getElem?_eq_some_iff.mp ei).1
      have hPn : IsF (qs3 ++ qs) (ix qs3 P : Nat) P := lift (st3.mem P hPm) _
      obtain ⟨dx', ob'⟩ := st'.F.ob
      walk_at "zw"
      walk_at "z"
      refine ⟨rfl, ?_⟩
      walk_at "z"
      refine z_methR ob' noFaces_kind ?_
      walk_at "z"
      refine ⟨p, A, D', _, ([]) ++ Ps, _, rfl, st'.F, st'.base, by simp; omega, fun no => absurd ⟨hPn.1, hPn.lt⟩ no, fun P2 hP2 => ?_⟩
      obtain rfl := hP2.inj hPn
      intro qs2 hB8 H8 D8 kp8 hF8 g1 g2 all8
      have st8 := st'.move (bs' := []) kp8 hF8 hB8 g2
      obtain ⟨fL8, nL8⟩ := st'.F.mv kp8 g2 fL' nL'
      rw [List.append_assoc] at st8 all8 ⊢
      refine ⟨_, fL8, szlt (by simp; omega), qs ++ qs2, D8, st8.updL fL8 nL8 L1 L2 L3, (kp'.trans kp8).setNew hL, frTrans st'.F kp' fr' g2, nL8, ?_, ?_⟩
      · rw [upd_same, List.take_add_one, ei, List.map_append]
        congr 2
        apply congrArg (· ++ _)
        apply List.map_congr_left
        intro R hR
        rw [← List.append_assoc, kindN_app (all' R hR)]
      · intro R hR
        rw [List.take_add_one, ei] at hR
        rcases List.mem_append.mp hR with h | h
        · rw [← List.append_assoc]; exact (all' R h).app
        · simp at h; subst h; exact all8
  rintro H5 ⟨qs5, D5, st5, kp45, fr5, nL5, fL5, all5⟩
  rw [List.length_map, List.take_of_length_le (Nat.le_refl _)] at fL5 all5
  obtain ⟨fB5, nBD5⟩ := st4.F.mv kp45 fr5 fB4 nBD3
  obtain ⟨fl5, nlD5⟩ := st4.F.mv kp45 fr5 fl4 nlD3
  have kp05 := kp04.trans kp45
  have hs5 := keep_seq kp05 foot0 hs
  walk_at "zw"
  walk_at "z"
  refine ⟨_, rfl, by decide, by decide, fun N hN => ?_⟩
  refine lc_range (lo := 0) (n := 5) (fun i H' => Same H5 H' ∧ ∃ zs : List Int, H' N = some (.lst (zs.map V.int)) ∧ zs.length = i) ⟨Same.new hN, [], upd_same, rfl⟩ ?_ ?_
  · rintro i H' hi ⟨t1, zs, t2, t3⟩
    have e0 : (0 : Int) + (i : Nat) = (i : Nat) := Int.zero_add _
    rw [e0]
    have hi5 : i < 5 := hi
    walk_at "zw"
    walk_at "z"
    refine ⟨rfl, ?_⟩
    walk_at "z"
    refine ⟨a, ns, 13 + i, by rw [Int.natCast_add]; rfl, t1.seq hs5, ?_⟩
    walk_at "z"
    exact ⟨_, t2, szlt (by rw [List.length_map]; omega), t1.set hN, zs ++ [cell ns (13 + i) + 1], by rw [upd_same, List.map_append]; rfl, by simp [t3]⟩
  rintro H6 ⟨s6, zs, fN6, hzl⟩
  have hzl5 : zs.length = 5 := hzl
  walk_at "z"
  have st6 := st5.same s6
  refine ⟨p, A, D5, N, zs, _, [] ++ Ps, rfl, st6.F, st6.base, by simp; omega, fN6, st5.F.nd hN, by omega, fun H7 r7 nl7 dl7 tl7 D7 qs7 nds7 kp67 fr7 hr7 sx7 hl7 _ => ?_⟩
  walk_at "z"
  rw [List.nil_append] at sx7
  have st7 := st6.move (bs' := Ps ++ runP zs) kp67 sx7.F (sx7.base.mono fun B h => List.mem_append_left _ h) fr7
  obtain ⟨fB7, nBD7⟩ := st6.F.mv kp67 fr7 (s6 _ _ fB5) nBD5
  obtain ⟨fl7, nlD7⟩ := st6.F.mv kp67 fr7 (s6 _ _ fl5) nlD5
  obtain ⟨fL7, nL7⟩ := st6.F.mv kp67 fr7 (s6 _ _ fL5) nL5
  have kp07 := (kp05.trans s6.keep).trans kp67
  refine ⟨p, A, D7, l, ms, _, Ps ++ runP zs, rfl, st7.F, sx7.base, by rw [List.length_append]; omega, fl7, nlD7, by omega, fun H8 r8 nl8 dl8 tl8 D8 qs8 nds8 kp78 fr8 hr8 sx8 _ _ => ?_⟩
  walk_at "z"
  rw [hPs] at sx8
  have st8 := st7.move (bs' := Ps ++ runP zs) kp78 sx8.F sx8.base fr8
  obtain ⟨fB8, nBD8⟩ := st7.F.mv kp78 fr8 fB7 nBD7
  obtain ⟨fl8, nlD8⟩ := st7.F.mv kp78 fr8 fl7 nlD7
  obtain ⟨fL8, nL8⟩ := st7.F.mv kp78 fr8 fL7 nL7
  have kp08 := kp07.trans kp78
  have e8 : ∀ zs8 : List Pic, (Ps.map fun P => V.int (ix (qs3 ++ zs8) P : Nat)) = (Ps.map fun P => ((ix qs3 P : Nat) : Int)).map V.int := fun zs8 => by
    rw [List.map_map]
    apply List.map_congr_left
    intro P hP
    rw [ix_app (st3.mem P hP)]
    rfl
  have e4 : (Ps.map fun P => V.int (ix qs3 P : Nat)) = (Ps.map fun P => ((ix qs3 P : Nat) : Int)).map V.int := by rw [List.map_map]; rfl
  have td8 := sx8.td
  have fB8' := fB8
  rw [show qs3 ++ qs5 ++ qs7 ++ qs8 = qs3 ++ (qs5 ++ qs7 ++ qs8) by simp [List.append_assoc], e8] at td8
  rw [e4] at fB8'
  refine z_ixT (SqT.of hr8) (by rfl) ?_
  walk_at "z"
  refine ⟨_, _, .list ((Ps.map fun P => ((ix qs3 P : Nat) : Int)).map PyData.int), rfl, .lst td8 (DvAll.ints _), .lst fB8' (DvAll.ints _), by rw [dpt_intsL]; decide, fun H9 s9 => ?_⟩
  walk_at "z"
  have st9 := st8.same s9
  refine ⟨tl, rfl, ⟨_, SqL.of st9.td⟩, fun L9 hL9 => ?_⟩
  rw [show qs3 ++ qs5 ++ qs7 ++ qs8 = qs3 ++ (qs5 ++ qs7 ++ qs8) by simp [List.append_assoc]] at st9
  have M1 : L9 ≠ nl := fun e => by obtain ⟨_, ⟨vs, hv, _⟩, _⟩ := st9.N; rw [← e, hL9] at hv; cases hv
  have M2 : L9 ≠ dl := fun e => by have := st9.dp; rw [← e, hL9] at this; cases this
  have M3 : L9 ≠ tl := fun e => by have := st9.td; rw [← e, hL9] at this; cases this
  have nM9 : ¬ D8 L9 := st9.F.nd hL9
  generalize hZ : qs5 ++ qs7 ++ qs8 = Z at st9
  have tl9 : H9 tl = some (.lst (Ps.map fun P => V.int (ix qs3 P : Nat))) := by rw [st9.td, e8, e4]
  refine lc_list (K := K) (a := tl) (xs := Ps.map fun P => V.int (ix qs3 P : Nat)) (fun i H' => ∃ qs D', StandG (Ps ++ runP zs) (He.ga K "Faces") H' p A D' ((qs3 ++ Z) ++ qs) nl dl tl Ps nds ∧ Keep A.foot H9 H' ∧ (∀ b, D' b → D8 b ∨ H9 b = none) ∧ ¬ D' L9 ∧ H' L9 = some (.lst ((Ps.take i).map fun P => V.int (kindN ((qs3 ++ Z) ++ qs) P : Nat))) ∧ ∀ P ∈ Ps.take i, AllT ((qs3 ++ Z) ++ qs) P)
    ⟨[], D8, by rw [List.append_nil]; exact st9.same (Same.new hL9), (Keep.refl _ _).setNew hL9, fun b h => .inl h, nM9, upd_same, fun P h => by simp at h⟩ (fun i H' _ h => by obtain ⟨_, _, _, kp, _⟩ := h; exact SqL.of (kp _ _ tl9 (st9.F.ofFoot st9.nt))) ?_ ?_
  · rintro i x H' hi ⟨qs, D', st', kp', fr', nL', fL', all'⟩
    rw [List.getElem?_map] at hi
    cases ei : Ps[i]? with
    | none => rw [ei] at hi; cases hi
    | some P =>
      rw [ei] at hi
      obtain rfl := Option.some.inj hi
      have hPm := List.mem_of_getElem? ei
      have hiP : i < Ps.length := (List.getElem?_eq_some_iff.mp ei).1
      have hPn : IsF ((qs3 ++ Z) ++ qs) (ix qs3 P : Nat) P := by rw [List.append_assoc]; exact lift (st3.mem P hPm) _
      obtain ⟨dx', ob'⟩ := st'.F.ob
      walk_at "zw"
      walk_at "z"
      refine ⟨rfl, ?_⟩
      walk_at "z"
      refine z_methR ob' noFaces_kind ?_
      walk_at "z"
      refine ⟨p, A, D', _, (Ps ++ runP zs) ++ Ps, _, rfl, st'.F, st'.base, by simp only [List.length_append]; omega, fun no => absurd ⟨hPn.1, hPn.lt⟩ no, fun P2 hP2 => ?_⟩
      obtain rfl := hP2.inj hPn
      intro qs2 hB8 H8 D8 kp8 hF8 g1 g2 all8
      have st8 := st'.move (bs' := Ps ++ runP zs) kp8 hF8 hB8 g2
      obtain ⟨fL8, nL8⟩ := st'.F.mv kp8 g2 fL' nL'
      rw [List.append_assoc] at st8 all8 ⊢
      refine ⟨_, fL8, szlt (by simp; omega), qs ++ qs2, D8, st8.updL fL8 nL8 M1 M2 M3, (kp'.trans kp8).setNew hL9, frTrans st'.F kp' fr' g2, nL8, ?_, ?_⟩
      · rw [upd_same, List.take_add_one, ei, List.map_append]
        congr 2
        apply congrArg (· ++ _)
        apply List.map_congr_left
        intro R hR
        rw [← List.append_assoc, kindN_app (all' R hR)]
      · intro R hR
        rw [List.take_add_one, ei] at hR
        rcases List.mem_append.mp hR with h | h
        · rw [← List.append_assoc]; exact (all' R h).app
        · simp at h; subst h; exact all8
  rintro H10 ⟨qs10, D10, st10, kp910, fr10, nL10, fM10, all10⟩
  rw [List.length_map, List.take_of_length_le (Nat.le_refl _)] at fM10
  obtain ⟨fL10, nLD10⟩ := st9.F.mv kp910 fr10 (s9 _ _ fL8) nL8
  obtain ⟨fl10, nlD10⟩ := st9.F.mv kp910 fr10 (s9 _ _ fl8) nlD8
  have kp010 := (kp08.trans s9.keep).trans kp910
  have k1 : (Ps.map fun P => V.int (kindN (qs3 ++ Z ++ qs10) P : Nat)) = (Ps.map fun P => ((kindN (qs3 ++ qs5) P : Nat) : Int)).map V.int := by
    rw [List.map_map]
    apply List.map_congr_left
    intro P hP
    rw [← hZ, show qs3 ++ (qs5 ++ qs7 ++ qs8) ++ qs10 = (qs3 ++ qs5) ++ (qs7 ++ qs8 ++ qs10) by simp [List.append_assoc], kindN_app (all5 P hP)]
    rfl
  have k2 : (Ps.map fun P => V.int (kindN (qs3 ++ qs5) P : Nat)) = (Ps.map fun P => ((kindN (qs3 ++ qs5) P : Nat) : Int)).map V.int := by rw [List.map_map]; rfl
  rw [k1] at fM10
  have fL10' := fL10
  rw [k2] at fL10'
  walk_at "zw"
  walk_at "z"
  refine ⟨_, _, .list ((Ps.map fun P => ((kindN (qs3 ++ qs5) P : Nat) : Int)).map PyData.int), rfl, .lst fM10 (DvAll.ints _), .lst fL10' (DvAll.ints _), by rw [dpt_intsL]; decide, fun H11 s11 => ?_⟩
  walk_at "z"
  have st11 := st10.same s11
  have hlen11 := st11.base.len st11.F.inv.nd
  simp only [List.length_append] at hlen11
  refine ⟨p, A, D10, _, tl, Ps, rfl, st11.F, ?_, by simp only [List.length_append]; omega, st11.td, by have := st3.ten; omega, st11.mem, fun H12 s12 => ?_⟩
  · rw [← hPs] at st11
    exact run_two st11.mem
  walk_at "z"
  have st12 := st11.same s12
  have kp012 := ((kp010.trans s11.keep).trans s12.keep)
  have fl12 := s12 _ _ (s11 _ _ fl10)
  have hs12 := keep_seq kp012 foot0 hs
  have alive : ∀ b, A.foot b → ∃ o, H12 b = some o := fun b hb => st12.F.ex b (st12.F.df b hb)
  clear fB8 fB8' td8 fM10 fL10 fL10' fL8 fB7 fB5 fl8 fl7 fl5 fl4 st11 st10 st9 st8 st7 st6 st5 st4 sx8 sx7
  refine z_mkFaces fun H13 p2 A2 E0 s13 hG0 hE0 => ?_
  walk_at "z"
  refine z_rng3 ?_
  walk_at "z"
  have f13 : ∀ b, A2.foot b → H12 b = none := fun b hb => hE0 b (hG0.df b hb)
  refine ⟨9, -1, -1, 10, rfl, ⟨by decide, by decide, by decide, by decide⟩, ?_⟩
  refine for_rangeC (fun i σ H' => ∃ E qs x, σ = [some (.ref a), some (.ref p), some (.ref l), some (.ref nl), some (.ref dl), some (.ref tl), some (.ref B), none, some (.ref L), none, some (.ref r8), some (.ref p2), x, none, none, none] ∧ FacesAt (He.ga K "Faces") H' p2 A2 E qs ∧ Keep A2.foot H13 H' ∧ (∀ b, E b → E0 b ∨ H13 b = none) ∧ Base (plains 10) qs) ⟨E0, [], none, rfl, hG0, Keep.refl _ _, fun b h => .inl h, fun P h => by cases h⟩ ?_ ?_
  · rintro i σ H' hi ⟨E, qs, x, rfl, hG, kp, fr, hb⟩
    obtain ⟨dx, ob⟩ := hG.ob
    have hbl := hb.len hG.inv.nd
    rw [plains_len] at hbl
    walk_at "z"
    refine z_methR ob noFaces_plain ?_
    walk_at "z"
    have ek : (9 : Int) + (i : Nat) * -1 = ((9 - i : Nat) : Int) := by omega
    rw [ek]
    refine ⟨p2, A2, E, qs, _, rfl, hG, by omega, fun no => absurd ⟨by omega, by omega⟩ no, fun _ H5 E5 kp5 hG5 g1 g2 => ?_⟩
    walk_at "z"
    exact ⟨E5, _, _, rfl, hG5, kp.trans kp5, frTrans hG kp fr g2, hb.add ⟨.p ((9 - i : Nat) : Int), List.mem_of_getElem? (plains_get (n := 10) (k := 9 - i) (by omega)), 0, by decide, (turn_zero _).symm⟩⟩
  rintro σ H14 ⟨E14, qs14, x14, rfl, hG14, kp1314, fr14, hb14⟩
  have S14 : Same H12 H14 := Keep.outS s13 kp1314 f13
  have fl14 := S14 _ _ fl12
  have nlE14 : ¬ E14 l := fresh_not (s13 _ _ fl12) (fun h => by rw [hE0 l h] at fl12; cases fl12) fr14
  walk_at "z"
  refine z_revLR (SqL.of fl14) ?_
  walk_at "zn"
  rename_i R nR H15 s15 fR
  rw [← List.map_reverse] at fR
  have hG15 := hG14.same s15
  walk_at "z"
  refine ⟨p2, A2, E14, R, ms.reverse, qs14, plains 10, rfl, hG15, hb14, by rw [plains_len]; decide, fR, hG14.nd nR, by rw [List.length_reverse]; omega, fun H16 r16 nl16 dl16 tl16 E16 q16 nds16 kp1516 fr16 hr16 sx16 hl16 _ => ?_⟩
  rw [List.length_reverse] at hl16
  obtain ⟨fl16, nlE16⟩ := hG15.mv kp1516 fr16 (s15 _ _ fl14) nlE14
  have kp1316 := (kp1314.trans s15.keep).trans kp1516
  obtain ⟨_, ⟨us, hus16, hud⟩, _⟩ := id sx16.N
  have hul : us.length = (runP ms.reverse).length := by rw [hud.len, List.length_map, sx16.N.len]
  have ten16 := sx16.ten
  walk_at "z"
  refine ⟨p2, A2, E16, l, ms, _, plains 10 ++ runP ms.reverse, rfl, sx16.F, sx16.base, by rw [List.length_append, plains_len]; omega, fl16, nlE16, by omega, fun H17 r17 nl17 dl17 tl17 E17 q17 nds17 kp1617 fr17 hr17 sx17 _ _ => ?_⟩
  rw [hPs] at sx17
  have hr16 := (kp1617.tup sx16.F) _ _ hr16
  obtain ⟨hus17, _⟩ := sx16.F.mv kp1617 fr17 hus16 sx16.nn
  have kp1317 := kp1316.trans kp1617
  have S17 : Same H12 H17 := Keep.outS s13 kp1317 f13
  have st17 := st12.same S17
  have hs17 := S17.seq hs12
  obtain ⟨nle17, ⟨ws, hws, hwd⟩, _⟩ := id st17.N
  have hwl : ws.length = Ps.length := by rw [hwd.len, List.length_map, nle17]
  walk_at "z"
  refine z_lenL (SqL.of hws) ?_
  walk_at "z"
  refine ⟨_, rfl, by omega, by omega, ?_⟩
  rw [Int.toNat_natCast]
  refine for_range (lo := 0) (n := ws.length) (fun i σ H' => Same H17 H' ∧ ∃ x12 x15, σ = [some (.ref a), some (.ref p), some (.ref l), some (.ref nl), some (.ref dl), some (.ref tl), some (.ref B), none, some (.ref L), none, some (.ref r8), some (.ref p2), x12, some (.ref r16), some (.ref r17), x15]) ⟨Same.refl _, _, _, rfl⟩ ?_ ?_
  · rintro i σ H' hi ⟨t1, x12, x15, rfl⟩
    have e0 : (0 : Int) + (i : Nat) = (i : Nat) := Int.zero_add _
    rw [e0]
    have hiP : i < Ps.length := by omega
    obtain ⟨P, eP⟩ : ∃ P, Ps[i]? = some P := ⟨Ps[i], List.getElem?_eq_getElem hiP⟩
    have hPm := List.mem_of_getElem? eP
    have su := sx17.same t1
    have sv := st17.same t1
    have hf2 := IsF.ix (sx17.mem P hPm)
    have hf1 := IsF.ix (st12.mem P hPm)
    have hd12 := ok_depth (sx17.F.inv.ok P (sx17.mem P hPm))
    obtain ⟨dx2, ob2⟩ := su.F.ob
    have t17 := t1 _ _ hr17
    have atD : atI (Ps.map fun P => V.int (P.depth : Nat)) ((i : Nat) : Int) = some (.int (P.depth : Nat)) := atI_of (n := i) (by rw [List.getElem?_map, eP]; rfl) rfl
    walk_at "z"
    refine z_methR ob2 noFaces_depth ?_
    walk_at "z"
    refine z_ixT (SqT.of t17) (by rfl) ?_
    walk_at "z"
    refine z_ixL (SqL.of su.td) (atI_of (n := i) (by rw [List.getElem?_map, eP]; rfl) rfl) ?_
    walk_at "z"
    refine ⟨p2, A2, E17, _, _, rfl, su.F, fun R2 hR2 => ?_, fun no => absurd ⟨hf2.1, hf2.lt⟩ no⟩
    obtain rfl := hR2.inj hf2
    walk_at "z"
    refine z_ixL (SqL.of sv.dp) atD ?_
    walk_at "z"
    refine z_noN rfl ?_
    walk_at "z"
    refine z_ixT (SqT.of t17) (by rfl) ?_
    walk_at "z"
    refine z_ixL (SqL.of su.td) (atI_of (n := i) (by rw [List.getElem?_map, eP]; rfl) rfl) ?_
    walk_at "z"
    refine ⟨a, ns, 0, rfl, t1.seq hs17, ?_⟩
    walk_at "z"
    refine z_ixL (SqL.of sv.dp) atD ?_
    walk_at "z"
    refine ⟨p2, A2, E17, _, nl, Ps, nds, _, _, _, _, R2.depth, R2, rfl, su.F, sv.N, by rw [turn_zero]; exact hf2, by omega, by rw [Int.toNat_natCast]; exact eP, by decide, Nat.le_refl _, by omega, fun H18 t2 => ?_⟩
    walk_at "z"
    have sw := sv.same t2
    refine z_ixL (SqL.of sw.td) (atI_of (n := i) (by rw [List.getElem?_map, eP]; rfl) rfl) ?_
    walk_at "z"
    refine ⟨a, ns, 0, rfl, (t1.trans t2).seq hs17, ?_⟩
    walk_at "z"
    refine z_ixL (SqL.of sw.dp) atD ?_
    walk_at "z"
    refine ⟨p, A, D10, _, nl, Ps, nds, _, _, _, _, R2.depth, R2, rfl, sw.F, sw.N, by rw [turn_zero]; exact hf1, by omega, by rw [Int.toNat_natCast]; exact eP, by decide, Nat.le_refl _, by omega, fun H19 t3 => ?_⟩
    walk_at "z"
    exact ⟨(t1.trans t2).trans t3, _, _, rfl⟩
  · rintro σ H' ⟨t1, x12, x15, rfl⟩
    walk_at "z"
    refine z_ixT (SqT.of (t1 _ _ hr16)) (by rfl) ?_
    walk_at "z"
    refine z_lenL (SqL.of (t1 _ _ hus17)) ?_
    walk_at "z"
    rw [decide_eq_true (show (10 : Int) ≤ ((us.length : Nat) : Int) by omega)]
    exact q _
theorem law_walk : PySem.W.WalkO (PySem.W.view hR.prog [32]) hloose (PySem.W.XL (PySem.W.view hR.prog [32]) []) hk.says PySem.Challenge.rw_murrine_k10_faces_stay.row.toRowW (HandSHeadRun.topDef hR.prog 32) [] (fun f vs => PySem.call f vs) := by
  refine Att.attach_callB (l := PySem.Challenge.rw_murrine_k10_faces_stay) (n := 63) rfl (by kernel_rfl) fun w s₀ s₁ mg mb fa o pm cd doc a vs ns G Y ho hd hcd hmg0 hobj hints hlen hbits hg => ?_
  obtain ⟨K, KX, c⟩ := Y
  have T : Tx w K mg := tx_of KX G.T.g c
  have hmg : mg ("law" : Str) = some (.ref fa) := by
    have e : (HandSHeadRun.topDef hR.prog 32).name = ("law" : Str) := by kernel_rfl
    rw [← e]
    exact hmg0
  have ef : fa = He.ga K "law" := Value.ref.inj (Option.some.inj (hmg.symm.trans T.glaw))
  subst ef
  obtain ⟨fd, F⟩ := T.flaw
  have hb : ∀ (s : Shared) (v : Value), BindsTo s fd ⟨[v], []⟩ [("_law_script", v)] := fun s v => FunD.bindsA (ps := ["_law_script"]) F (fun _ _ _ _ _ _ us hl => match us, hl with | [_], _ => rfl) s [v] rfl
  refine law_call KX G.T.g G.T.b G.T.builtins G.T.nolimit hg hobj hints (Nat.le_trans hlen (by decide)) (k := 18) (CX := L2.CX PySem.Challenge.rw_murrine_k10_faces_stay.prog w) (sp := spLaw K) ⟨rfl, by decide, by decide⟩ (fun base b1 b2 => ok_law T F) hb (fun H hO hS => ⟨a, ns, rfl, hS, hlen, hbits, fun _ => rfl⟩) (fun H e s' h => ?_)
  obtain ⟨_, _, _, _, _, _, _, _, _, _, _, _, z⟩ := h
  exact z
end Mur
open PySem PySem.W PySem.Calls PyProof.Rows
theorem PySem.Challenge.cw_murrine_k10_faces_stay_holds : PySem.Challenge.rw_murrine_k10_faces_stay.Holds := by
  w_on; o_law
  refine HandSHeadRun.head_any (r := OpenLaw.row PySem.Challenge.rw_murrine_k10_faces_stay) (q := view (OpenLaw.row PySem.Challenge.rw_murrine_k10_faces_stay).prog [32]) (H := Mur.hk) (ob := Mur.hob) (M := 8000) (loose := Mur.hloose) (d := HandSHeadRun.topDef (OpenLaw.row PySem.Challenge.rw_murrine_k10_faces_stay).prog 32) (kwd := []) Mur.hob_eq
    (by kernel_rfl) (fun s => by kernel_rfl) Mur.hrun (by kernel_rfl) (by kernel_rfl) (by kernel_rfl) (by rfl) (by first | assumption | decide +kernel) (by decide +kernel) ⟨rfl, rfl, rfl, rfl, rfl, by decide +kernel⟩ ?hw ?hc
  case hw => w_witness2
  case hc => exact Mur.law_walk
#print axioms PySem.Challenge.cw_murrine_k10_faces_stay_holds
