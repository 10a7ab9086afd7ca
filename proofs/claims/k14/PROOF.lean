import PyProof.Rows.All
import Wide.All
import OpenK.AllK
import Wide.FinOn
import KE.KStateDown
import Lean
import HandS.ForMost
import HandS.ForExc
import HandS.TryMany
import HandS.Defaults
import HandS.EndBits
import HandS.IsInst
import HandS.Style
import HandS.Zip
import HandS.Walk
import HandS.TupAny
import HandS.WideBits
import HandS.Wide
import HandS.Head0
import HandS.Head1
import HandS.Head2
import HandS.HeadEnd
import HandS.HeadHook1
import HandS.HeadHook2
import HandS.Nested
import HandS.NestedK
import HandS.SortKw
import KE.SortKeyHeap
import HandS.HeadHook4
import HandS.EndTab
import PySem.Challenge.RW_murrine_k14_needed_beside_some
set_option Elab.async false
set_option linter.all false
set_option maxRecDepth 100000
set_option maxHeartbeats 4000000
/-! Own words over the hand layer: a def with its promise (Fk), its calls; readings step by step (z_*). -/
namespace Mur
open PySem hiding start
open PySem.Spec L2
open PyProof.Rows hiding St

/-! ### a def of the text that keeps its promise -/
structure Fk (P : Program) (w : World) (K : PySem.W.Frag) (mg : Str → Option Value) (base : Heap) (k : Nat) (f : Addr) (ps : List Str) (sp : Sp) : Prop where
  ex : ∃ fd, FnOk P w K mg base (L2.CX P w) k f fd ps sp ∧ Binds K fd ps []
  kp : PySem.W.keepIn K (.ref f) = true
section
variable {P : Program} {w : World} {K : PySem.W.Frag} {mg : Str → Option Value} {base : Heap} {k : Nat} {f : Addr} {ps : List Str} {sp : Sp}
theorem Fk.up {j : Nat} (G : Fk P w K mg base k f ps sp) (h : k ≤ j) : Fk P w K mg base j f ps sp :=
  let ⟨fd, a, b⟩ := G.ex; ⟨⟨fd, a.mono h, b⟩, G.kp⟩
theorem Fk.mk' {x qual : Str} {params : Arguments} {body : List Stmt} {scope : Scope} {N : List Str} (F : ∃ fd, FunD K x qual params body scope [] [] f fd) (S : FnScope N ps scope)
    (hb : ∀ (kV doc pm : Value) (an : Option Addr) (cdv ct : Value) (us : List Value), us.length = ps.length → bindArgs (PySem.W.fnOf x qual params body scope .none kV doc pm an cdv ct) ⟨us, []⟩ = pure (ps.zip us))
    (len : ∀ vs H Q E, sp vs H Q E → vs.length = ps.length)
    (hbody : ∀ (cdv : Value) (A : Around) (outer : List Env) (s : Shared) (H : Hp) (vs : List V) (Q : VK) (E : XK), Room k (A.deeper (envOfC qual scope s.heap.objs.size f cdv)) → sp vs H Q E →
      ∃ t, PSs (cxOf (L2.CX P w) P w K mg base N qual scope f cdv A outer s H E) body t ∧ t { nx := fun _ H' => Q .non H', rt := Q } (start N vs) H) : Fk P w K mg base (k + 1) f ps sp := by
  obtain ⟨fd, F⟩ := F
  exact ⟨⟨fd, F.ok (CX := L2.CX P w) S len hbody, F.bindsN hb⟩, F.kp⟩
end
section
variable {X : Cx} {k : Nat} {f C : Addr} {ps : List Str} {sp : Sp} {E : XK} {x m : Str} {p pos apos : Pos} {e o : Expr} {es : List Expr} {ta : TE} {t : TA}
theorem q_call (G : Fk X.prog X.w X.K X.mg X.base k f ps sp) (hr : Room k X.A) (hm : X.mg x = some (.ref f)) (hx : Passes (L2.CX X.prog X.w) X E) (ha : PA X (e :: es) t) (hg : Gl X x := by rfl)
    (hdb : (x == ("__debug__" : Str)) = false := by decide) (he : starEach (e :: es) X.env = (false, eval e X.env) :: starEach es X.env := by rfl) (hpl : (backTo pos (starEach es X.env)).any (·.1) = false := by rfl) :
    PE X (.Call (.Name x p) (e :: es) [] pos) (tCall sp [] E t) := by
  obtain ⟨fd, F, B⟩ := G.ex
  exact pe_call F hr hg hm G.kp B .nil hx ha hdb he hpl
theorem q_call0 (G : Fk X.prog X.w X.K X.mg X.base k f ps sp) (hr : Room k X.A) (hm : X.mg x = some (.ref f)) (hx : Passes (L2.CX X.prog X.w) X E) (hg : Gl X x := by rfl)
    (hdb : (x == ("__debug__" : Str)) = false := by decide) : PE X (.Call (.Name x p) [] [] pos) (tCall sp [] E tNil) := by
  obtain ⟨fd, F, B⟩ := G.ex
  exact pe_call0 F hr hg hm G.kp B .nil hx hdb
theorem q_callS {E : St → XK} (G : Fk X.prog X.w X.K X.mg X.base k f ps sp) (hr : Room k X.A) (hm : X.mg x = some (.ref f)) (hx : ∀ σ, PassesAt (L2.CX X.prog X.w) X σ (E σ)) (ha : PA X (e :: es) t) (hg : Gl X x := by rfl)
    (hdb : (x == ("__debug__" : Str)) = false := by decide) (he : starEach (e :: es) X.env = (false, eval e X.env) :: starEach es X.env := by rfl) (hpl : (backTo pos (starEach es X.env)).any (·.1) = false := by rfl) :
    PE X (.Call (.Name x p) (e :: es) [] pos) (tCallS sp E t) := by
  obtain ⟨fd, F, B⟩ := G.ex
  exact pe_callS F hr hg hm G.kp B hx ha hdb he hpl
end
section
variable {X : Cx} {k : Nat} {f C : Addr} {ps : List Str} {sp : Sp} {E : XK} {x m : Str} {p pos apos : Pos} {e o : Expr} {es : List Expr} {ta : TE} {t : TA}
theorem q_meth {pl : Sem Bool} (he : PE X o ta) (c : Cls X.K C) (hm : Meth X.K C m f) (G : Fk X.prog X.w X.K X.mg X.base k f ps sp) (hr : Room k X.A) (hx : Passes (L2.CX X.prog X.w) X E) (ha : PA X (e :: es) t)
    (hst : starEach (e :: es) X.env = (false, eval e X.env) :: starEach es X.env := by rfl) (hpl : (backTo pos (starEach es X.env)).any (·.1) = false := by rfl)
    (ht : eval (.Call (.Attribute o m apos) (e :: es) [] pos) X.env = (do
      let ov ← eval o X.env
      standAt apos.atName
      let (f, first) ← holding [ov] (getMethod ov m pl)
      callWith pos f first (backTo pos (starEach (e :: es) X.env)) (backToKw pos (keywordEach [] X.env))) := by rfl) :
    PE X (.Call (.Attribute o m apos) (e :: es) [] pos) (tMeth C m sp [] E ta t) := by
  obtain ⟨fd, F, B⟩ := G.ex
  exact pe_meth he c hm F hr B .nil hx ha hst hpl ht
theorem q_meth0 {pl : Sem Bool} (he : PE X o ta) (c : Cls X.K C) (hm : Meth X.K C m f) (G : Fk X.prog X.w X.K X.mg X.base k f ps sp) (hr : Room k X.A) (hx : Passes (L2.CX X.prog X.w) X E)
    (ht : eval (.Call (.Attribute o m apos) [] [] pos) X.env = (do
      let ov ← eval o X.env
      standAt apos.atName
      let (f, first) ← holding [ov] (getMethod ov m pl)
      callWith pos f first (backTo pos (starEach [] X.env)) (backToKw pos (keywordEach [] X.env))) := by rfl) :
    PE X (.Call (.Attribute o m apos) [] [] pos) (tMeth C m sp [] E ta tNil) := by
  obtain ⟨fd, F, B⟩ := G.ex
  exact pe_meth0 he c hm F hr B .nil hx ht
/-- within a try: what is raised is wished for at the slots -/
def tMethSl (C : Addr) (m : Str) (sp : Sp) (E : L2.St → XK) (ta : TE) (t : TA) : TE := fun σ H Q => ta σ H fun x H1 => ∃ a dx fs, x = .ref a ∧ H1 a = some (.ins C dx fs) ∧ fs.lookup m = none ∧
  t σ H1 fun vs H2 => sp (x :: vs) H2 Q (E σ)
theorem q_methS {E : L2.St → XK} {pl : Sem Bool} (he : PE X o ta) (c : Cls X.K C) (hm : Meth X.K C m f) (G : Fk X.prog X.w X.K X.mg X.base k f ps sp) (hr : Room k X.A) (hx : ∀ σ, PassesAt (L2.CX X.prog X.w) X σ (E σ)) (ha : PA X (e :: es) t)
    (hst : starEach (e :: es) X.env = (false, eval e X.env) :: starEach es X.env := by rfl) (hpl : (backTo pos (starEach es X.env)).any (·.1) = false := by rfl)
    (ht : eval (.Call (.Attribute o m apos) (e :: es) [] pos) X.env = (do
      let ov ← eval o X.env
      standAt apos.atName
      let (f, first) ← holding [ov] (getMethod ov m pl)
      callWith pos f first (backTo pos (starEach (e :: es) X.env)) (backToKw pos (keywordEach [] X.env))) := by rfl) :
    PE X (.Call (.Attribute o m apos) (e :: es) [] pos) (tMethSl C m sp E ta t) := by
  obtain ⟨fd, F, B⟩ := G.ex
  refine ⟨fun pins s σ H Q I h => ?_⟩
  refine PySem.W.methodCall_KW (pl := pl) (thn (he.run pins s σ H _ I h) fun u s1 ⟨x, H1, I1, rx, a, dx, fs, ex, ea, l, q⟩ => ?_) ht
  subst ex
  obtain rfl : u = Value.ref a := rx
  refine getmeth_ok I1 ea c hm l ?_
  exact PySem.W.callWith_K (first := [.ref a]) (h₀ := X.base) I.ok.mod.kin hm.kp (thn (ha.run pos pins s1 σ H1 _ I1 q) fun us s2 ⟨vs, H2, I2, r, q2⟩ => ⟨I2.kIn, run_fnS (us := .ref a :: us) (vs := .ref a :: vs) F hr B (hx σ) I2 (.cons rfl r) q2⟩) hst hpl
theorem q_meth0S {E : L2.St → XK} {pl : Sem Bool} (he : PE X o ta) (c : Cls X.K C) (hm : Meth X.K C m f) (G : Fk X.prog X.w X.K X.mg X.base k f ps sp) (hr : Room k X.A) (hx : ∀ σ, PassesAt (L2.CX X.prog X.w) X σ (E σ))
    (ht : eval (.Call (.Attribute o m apos) [] [] pos) X.env = (do
      let ov ← eval o X.env
      standAt apos.atName
      let (f, first) ← holding [ov] (getMethod ov m pl)
      callWith pos f first (backTo pos (starEach [] X.env)) (backToKw pos (keywordEach [] X.env))) := by rfl) :
    PE X (.Call (.Attribute o m apos) [] [] pos) (tMethSl C m sp E ta tNil) := by
  obtain ⟨fd, F, B⟩ := G.ex
  refine ⟨fun pins s σ H Q I h => ?_⟩
  refine PySem.W.methodCall_KW (pl := pl) (thn (he.run pins s σ H _ I h) fun u s1 ⟨x, H1, I1, rx, a, dx, fs, ex, ea, l, q⟩ => ?_) ht
  subst ex
  obtain rfl : u = Value.ref a := rx
  refine getmeth_ok I1 ea c hm l ?_
  exact PySem.W.callWith_K0 (first := [.ref a]) I1.kIn hm.kp (run_fnS (us := [.ref a]) (vs := [.ref a]) F hr B (hx σ) I1 (.cons rfl .nil) q)
theorem q_make (M : Mk X.K C f) (G : Fk X.prog X.w X.K X.mg X.base k f ps sp) (hr : Room (k + 1) X.A) (hm : X.mg x = some (.ref C)) (hx : Passes (L2.CX X.prog X.w) X E) (ha : PA X (e :: es) t) (hg : Gl X x := by rfl)
    (hdb : (x == ("__debug__" : Str)) = false := by decide) (he : starEach (e :: es) X.env = (false, eval e X.env) :: starEach es X.env := by rfl) (hpl : (backTo pos (starEach es X.env)).any (·.1) = false := by rfl) :
    PE X (.Call (.Name x p) (e :: es) [] pos) (tMake C sp [] E t) := by
  obtain ⟨fd, F, B⟩ := G.ex
  exact pe_make M F hr hg hm B .nil hx ha hdb he hpl
theorem q_make0 (M : Mk X.K C f) (G : Fk X.prog X.w X.K X.mg X.base k f ps sp) (hr : Room (k + 1) X.A) (hm : X.mg x = some (.ref C)) (hx : Passes (L2.CX X.prog X.w) X E) (hg : Gl X x := by rfl)
    (hdb : (x == ("__debug__" : Str)) = false := by decide) : PE X (.Call (.Name x p) [] [] pos) (tMake C sp [] E tNil) := by
  obtain ⟨fd, F, B⟩ := G.ex
  exact pe_make0 M F hr hg hm B .nil hx hdb
end
/-- what a callee raises leaves the def's own body -/
theorem passX {P : Program} {w : World} {K : PySem.W.Frag} {mg : Str → Option Value} {base : Heap} {N : List Str} {qual : Str} {scope : Scope} {f : Addr} {cd : Value} {A : Around} {outer : List Env} {s : Shared} {H : Hp} {E : XK} :
    Passes (L2.CX P w) (cxOf (L2.CX P w) P w K mg base N qual scope f cd A outer s H E) E := passes_call (takes_of rfl rfl rfl rfl) fun _ _ _ _ h => h
theorem takesX {P : Program} {w : World} {K : PySem.W.Frag} {mg : Str → Option Value} {base : Heap} {N : List Str} {qual : Str} {scope : Scope} {f : Addr} {cd : Value} {A : Around} {outer : List Env} {s : Shared} {H : Hp} {E : XK} :
    Takes (cxOf (L2.CX P w) P w K mg base N qual scope f cd A outer s H E) (fun cls d _ H => E cls d H) := takes_of rfl rfl rfl rfl
/-- a global int -/
theorem q_int {X : Cx} {x : Str} {i : Int} {pos : Pos} (hm : ∃ t, X.mg x = some (.int i t)) (hg : Gl X x := by rfl) (hd : (x == ("__debug__" : Str)) = false := by decide) : PE X (.Name x pos) (tC (.int i)) := by
  obtain ⟨t, e⟩ := hm
  exact pe_glob hg e ⟨_, rfl⟩ hd
theorem q_txt {X : Cx} {x z : Str} {pos : Pos} (hm : ∃ t, X.mg x = some (.str z t)) (hg : Gl X x := by rfl) (hd : (x == ("__debug__" : Str)) = false := by decide) : PE X (.Name x pos) (tC (.str z)) := by
  obtain ⟨t, e⟩ := hm
  exact pe_glob hg e ⟨_, rfl⟩ hd

/-! ### operators of several kinds -/
def rIsX : R2 := fun x y H Q => (y = .non ∨ ∃ b, y = .bl b) ∧ Q (.bl (decide (x = y))) H
def rNotX : R2 := fun x y H Q => (y = .non ∨ ∃ b, y = .bl b) ∧ Q (.bl (!decide (x = y))) H
theorem op_isX {X : Cx} : OpR X (compareOp .Is) rIsX := by
  intro pins s σ H x y v u Q I rx ry h
  obtain ⟨rfl | ⟨b, rfl⟩, q⟩ := h
  · exact op_isN pins s σ H x .non v u Q I rx ry ⟨rfl, q⟩
  · cases x with
    | bl a =>
      refine op_isBl pins s σ H (.bl a) (.bl b) v u Q I rx ry ⟨a, b, rfl, rfl, ?_⟩
      have e : decide (V.bl a = V.bl b) = decide (a = b) := by by_cases h : a = b <;> simp [h]
      rw [e] at q
      exact q
    | non => cases (show u = Value.bool b from ry); cases (show v = Value.none from rx); exact wpAny_pure (fin_bl I q rfl)
    | ref a => cases (show u = Value.bool b from ry); cases (show v = Value.ref a from rx); exact wpAny_pure (fin_bl I q rfl)
    | ty n => cases (show u = Value.bool b from ry); cases (show v = Value.type n from rx); exact wpAny_pure (fin_bl I q rfl)
    | int i => cases (show u = Value.bool b from ry); obtain ⟨t, rfl⟩ := rx; exact wpAny_pure (fin_bl I q rfl)
    | str i => cases (show u = Value.bool b from ry); obtain ⟨t, rfl⟩ := rx; exact wpAny_pure (fin_bl I q rfl)
    | byt i => cases (show u = Value.bool b from ry); obtain ⟨t, rfl⟩ := rx; exact wpAny_pure (fin_bl I q rfl)
    | flt i => cases (show u = Value.bool b from ry); obtain ⟨t, rfl⟩ := rx; exact wpAny_pure (fin_bl I q rfl)
/-- +: ints, texts, lists, tuples -/
def rAddU (K : PySem.W.Frag) : R2 := fun x y H Q => rI0 (fun i j => .int (i + j)) x y H Q ∨ (∃ i j, x = .str i ∧ y = .str j ∧ i.length + j.length ≤ sizeLine ∧ Q (.str (i ++ j)) H) ∨ rCat x y H Q ∨ rCatA K x y H Q
theorem op_addU {X : Cx} : OpR X (binaryOp .Add) (rAddU X.K) := op_add.or (op_add_str.or (op_cat.or op_catA))
/-- *: ints of any size that matters, a list times an int -/
def rMulU : R2 := fun x y H Q => rI CMulX (fun i j => .int (i * j)) x y H Q ∨ rRep x y H Q
theorem op_mulU {X : Cx} : OpR X (binaryOp .Mult) rMulU := op_mulX.or op_rep
abbrev rSubI : R2 := rI0 fun i j => .int (i - j)
abbrev rDivI : R2 := rI CDivW fun i j => .int (i / j)
abbrev rModI : R2 := rI (fun _ j => 0 < j) fun i j => .int (i % j)
abbrev rShlI : R2 := rI CPow fun i j => .int (i * 2 ^ j.toNat)
abbrev rPowI : R2 := rI CPow fun i j => .int (i ^ j.toNat)
/-- ==: scalars, or data at any depth -/
def rEqU (K : PySem.W.Frag) : R2 := fun x y H Q => rEq x y H Q ∨ rEqD K x y H Q
def rNeU (K : PySem.W.Frag) : R2 := fun x y H Q => rNe x y H Q ∨ rNeD K x y H Q
theorem op_eqU {X : Cx} (hu : X.A.units + 64 < cLine) : OpR X (compareOp .Eq) (rEqU X.K) := op_eq.or (op_eqD hu)
theorem op_neU {X : Cx} (hu : X.A.units + 64 < cLine) : OpR X (compareOp .NotEq) (rNeU X.K) := op_ne.or (op_neD hu)

/-! ### slots -/
inductive StartAt : List Str → List V → St → Prop where
  | val {x : Str} {N : List Str} {v : V} {vs : List V} {σ : St} : StartAt N vs σ → StartAt (x :: N) (v :: vs) (some v :: σ)
  | non {x : Str} {N : List Str} {σ : St} : StartAt N [] σ → StartAt (x :: N) [] (none :: σ)
  | nil : StartAt [] [] []
theorem StartAt.eq : ∀ {N : List Str} {vs : List V} {σ : St}, StartAt N vs σ → start N vs = σ
  | _, _, _, .val h => by
    have e := h.eq
    unfold start at e ⊢
    simp only [List.map_cons, List.length_cons, List.cons_append, Nat.add_sub_add_right, e]
  | _, _, _, .non h => by
    have e := h.eq
    unfold start at e ⊢
    simp only [List.map_nil, List.length_cons, List.length_nil, Nat.sub_zero, List.nil_append, List.replicate_succ] at e ⊢
    rw [e]
  | _, _, _, .nil => rfl
theorem z_start {N : List Str} {vs : List V} {σ : St} {t : TS} {D : Ends} {H : Hp} (e : StartAt N vs σ) (k : t D σ H) : t D (start N vs) H := by rw [e.eq]; exact k
inductive SetAt : St → Nat → Option V → St → Prop where
  | zero {a v : Option V} {l : St} : SetAt (a :: l) 0 v (v :: l)
  | succ {a v : Option V} {l l' : St} {n : Nat} : SetAt l n v l' → SetAt (a :: l) (n + 1) v (a :: l')
theorem SetAt.eq : ∀ {l l' : St} {n : Nat} {v : Option V}, SetAt l n v l' → l.set n v = l'
  | _, _, _, _, .zero => rfl
  | _, _, _, _, .succ h => by rw [List.set_cons_succ, h.eq]
section
variable {K : PySem.W.Frag} {σ σ' : St} {H : Hp} {Q : VK} {ta tb tc te : TE} {v x y : V} {D : Ends} {ts tu : TS} {TQ : Bool → Hp → Prop} {tt tt2 : TT} {GQ : St → Hp → Prop}
/-! ### statements -/
theorem z_seq (h : ts { D with nx := tu D } σ H) : tSeq ts tu D σ H := h
theorem z_next (h : D.nx σ H) : tNext D σ H := h
theorem z_drop (h : te σ H fun _ H1 => D.nx σ H1) : tDrop te D σ H := h
theorem z_ret (h : te σ H D.rt) : tRet te D σ H := h
theorem z_retN (h : D.rt .non H) : tRetN D σ H := h
theorem z_asg {g : TG} (h : te σ H fun x H1 => g x σ H1 D.nx) : tAsg te g D σ H := h
theorem z_name {i : Nat} (e : SetAt σ i (some v) σ') (k : GQ σ' H) : gName i v σ H GQ := by
  show GQ (σ.set i (some v)) H
  rw [e.eq]; exact k
theorem z_if (h : tt σ H fun b H1 => if b = true then ts D σ H1 else tu D σ H1) : tIfS tt ts tu D σ H := h
theorem z_par {i j : Nat} {t : TA} (h : t σ H fun vs H1 => ∃ v w, vs = [v, w] ∧ D.nx ((σ.set i (some v)).set j (some w)) H1) : tPar i j t D σ H := h
theorem z_par2 {i j : Nat} {v w : V} {σ1 σ2 : St} (e1 : SetAt σ i (some v) σ1) (e2 : SetAt σ1 j (some w) σ2) (k : D.nx σ2 H) : ∃ v' w', [v, w] = [v', w'] ∧ D.nx ((σ.set i (some v')).set j (some w')) H :=
  ⟨v, w, rfl, by rw [e1.eq, e2.eq]; exact k⟩
/-! ### tests -/
theorem z_tTest (h : te σ H fun x H' => ∃ k, x = .bl k ∧ TQ k H') : tTest te σ H TQ := h
theorem z_tB (h : te σ H fun x H' => ∃ k, x = .bl k ∧ TQ k H') : tB te σ H TQ := h
theorem z_bl {b : Bool} (h : TQ b H) : ∃ k, V.bl b = .bl k ∧ TQ k H := ⟨b, rfl, h⟩
theorem z_and (h : tt σ H fun c H1 => if c = true then tt2 σ H1 TQ else TQ false H1) : tAnd tt tt2 σ H TQ := h
theorem z_or (h : tt σ H fun c H1 => if c = true then TQ true H1 else tt2 σ H1 TQ) : tOr tt tt2 σ H TQ := h
theorem z_not (h : tt σ H fun c H1 => TQ (!c) H1) : tNot tt σ H TQ := h
theorem z_ite {c A B : Prop} [Decidable c] (h1 : c → A) (h2 : ¬ c → B) : if decide c = true then A else B := by
  by_cases h : c
  · rw [if_pos (decide_eq_true h)]; exact h1 h
  · rw [if_neg (by rw [decide_eq_false h]; exact Bool.false_ne_true)]; exact h2 h
theorem z_iteN {c A B : Prop} [Decidable c] (h1 : ¬ c → A) (h2 : c → B) : if (!decide c) = true then A else B := by
  by_cases h : c
  · rw [decide_eq_true h]; exact iteF (h2 h)
  · rw [decide_eq_false h]; exact iteT (h1 h)
theorem z_yes {c A B : Prop} [Decidable c] (hc : c) (h : A) : if decide c = true then A else B := by rw [if_pos (decide_eq_true hc)]; exact h
theorem z_no {c A B : Prop} [Decidable c] (hc : ¬ c) (h : B) : if decide c = true then A else B := by rw [decide_eq_false hc]; exact iteF h
theorem z_yesN {c A B : Prop} [Decidable c] (hc : ¬ c) (h : A) : if (!decide c) = true then A else B := by rw [decide_eq_false hc]; exact iteT h
theorem z_noN {c A B : Prop} [Decidable c] (hc : c) (h : B) : if (!decide c) = true then A else B := by rw [decide_eq_true hc]; exact iteF h
theorem z_nnot {b : Bool} {A B : Prop} (h : if b = true then B else A) : if (!b) = true then A else B := by
  cases b
  · exact iteT (by simpa using h)
  · exact iteF (by simpa using h)
/-! ### expressions -/
theorem z_var {i : Nat} (e : σ[i]? = some (some v)) (k : Q v H) : tVar i σ H Q := ⟨v, e, k⟩
theorem z_c (k : Q v H) : tC v σ H Q := k
theorem z_op {r : R2} (h : ta σ H fun x H1 => tb σ H1 fun y H2 => r x y H2 Q) : tOp r ta tb σ H Q := h
theorem z_un {r : V → Hp → VK → Prop} (h : ta σ H fun x H1 => r x H1 Q) : tUn r ta σ H Q := h
theorem z_andV (h : ta σ H fun x H1 => ∃ c, x = .bl c ∧ if c = true then tb σ H1 Q else Q (.bl false) H1) : tAndV ta tb σ H Q := h
theorem z_orV (h : ta σ H fun x H1 => ∃ c, x = .bl c ∧ if c = true then Q (.bl true) H1 else tb σ H1 Q) : tOrV ta tb σ H Q := h
theorem z_notV (h : ta σ H fun x H1 => ∃ c, x = .bl c ∧ Q (.bl (!c)) H1) : tNotV ta σ H Q := h
theorem z_ifE (h : tt σ H fun c H1 => if c = true then ta σ H1 Q else tb σ H1 Q) : tIf tt ta tb σ H Q := h
theorem z_blQ {b : Bool} {R : Bool → Prop} (h : R b) : ∃ c, V.bl b = .bl c ∧ R c := ⟨b, rfl, h⟩
theorem z_cons {tr : TA} {AQ : List V → Hp → Prop} (h : ta σ H fun x H1 => tr σ H1 fun xs H2 => AQ (x :: xs) H2) : tCons ta tr σ H AQ := h
theorem z_nil {AQ : List V → Hp → Prop} (h : AQ [] H) : tNil σ H AQ := h
theorem z_tup {t : TA} (h : t σ H fun xs H1 => xs.length ≤ sizeLine ∧ ∀ p, H1 p = none → Q (.ref p) (upd H1 p (.tup xs))) : tTup t σ H Q := h
theorem z_lst {t : TA} (h : t σ H fun xs H1 => xs.length ≤ sizeLine ∧ ∀ p, H1 p = none → Q (.ref p) (upd H1 p (.lst xs))) : tLst t σ H Q := h
theorem z_call {sp : Sp} {E : XK} {t : TA} (h : t σ H fun vs H1 => sp (vs ++ []) H1 Q E) : tCall sp [] E t σ H Q := h
theorem z_callS {sp : Sp} {E : St → XK} {t : TA} (h : t σ H fun vs H1 => sp vs H1 Q (E σ)) : tCallS sp E t σ H Q := h
theorem z_cb {r : List V → Hp → VK → Prop} {t : TA} (h : t σ H fun vs H1 => r vs H1 Q) : tCB r t σ H Q := h
theorem z_chain {r r' : R2} (h : ta σ H fun x H1 => tb σ H1 fun y H2 => r x y H2 fun z H3 => ∃ k, z = .bl k ∧ (if k = true then tc σ H3 fun z' H4 => r' y z' H4 Q else Q (.bl false) H3)) : tChain r r' ta tb tc σ H Q := h
/-! ### operators on values -/
theorem z_I0 {g : Int → Int → V} {i j : Int} (k : Q (g i j) H) : rI0 g (.int i) (.int j) H Q := ⟨i, j, rfl, rfl, k⟩
theorem z_I {C : Int → Int → Prop} {g : Int → Int → V} {i j : Int} (c : C i j) (k : Q (g i j) H) : rI C g (.int i) (.int j) H Q := ⟨i, j, rfl, rfl, c, k⟩
theorem z_U {g : Int → V} {i : Int} (k : Q (g i) H) : rU g (.int i) H Q := ⟨i, rfl, k⟩
theorem z_addI {i j : Int} (k : Q (.int (i + j)) H) : rAddU K (.int i) (.int j) H Q := .inl ⟨i, j, rfl, rfl, k⟩
theorem z_addS {i j : Str} (c : i.length + j.length ≤ sizeLine) (k : Q (.str (i ++ j)) H) : rAddU K (.str i) (.str j) H Q := .inr (.inl ⟨i, j, rfl, rfl, c, k⟩)
theorem z_addL {a b : Addr} {xs zs : List V} (h1 : H a = some (.lst xs)) (h2 : H b = some (.lst zs)) (c : xs.length + zs.length ≤ sizeLine) (k : ∀ p, H p = none → Q (.ref p) (upd H p (.lst (xs ++ zs)))) : rAddU K (.ref a) (.ref b) H Q :=
  .inr (.inr (.inl ⟨a, b, xs, zs, rfl, rfl, h1, h2, c, k⟩))
theorem z_mulI {i j : Int} (c : CMulX i j) (k : Q (.int (i * j)) H) : rMulU (.int i) (.int j) H Q := .inl ⟨i, j, rfl, rfl, c, k⟩
theorem z_mulL {l : Addr} {n : Int} {xs : List V} (h : H l = some (.lst xs)) (c1 : 0 ≤ n) (c2 : n < 2 ^ 62) (c3 : xs.length * n.toNat ≤ sizeLine) (k : ∀ p, H p = none → Q (.ref p) (upd H p (.lst (List.replicate n.toNat xs).flatten))) : rMulU (.ref l) (.int n) H Q :=
  .inr ⟨l, n, xs, rfl, rfl, h, by omega, by omega, c3, k⟩
theorem z_eqI {i j : Int} (k : Q (.bl (decide (i = j))) H) : rEqU K (.int i) (.int j) H Q := .inl ⟨rfl, by
  have e : decide (V.int i = V.int j) = decide (i = j) := by by_cases h : i = j <;> simp [h]
  rw [e]; exact k⟩
theorem z_neI {i j : Int} (k : Q (.bl (!decide (i = j))) H) : rNeU K (.int i) (.int j) H Q := .inl ⟨rfl, by
  have e : decide (V.int i = V.int j) = decide (i = j) := by by_cases h : i = j <;> simp [h]
  rw [e]; exact k⟩
theorem z_eqS {i j : Str} (k : Q (.bl (decide (i = j))) H) : rEqU K (.str i) (.str j) H Q := .inl ⟨rfl, by
  have e : decide (V.str i = V.str j) = decide (i = j) := by by_cases h : i = j <;> simp [h]
  rw [e]; exact k⟩
theorem z_neS {i j : Str} (k : Q (.bl (!decide (i = j))) H) : rNeU K (.str i) (.str j) H Q := .inl ⟨rfl, by
  have e : decide (V.str i = V.str j) = decide (i = j) := by by_cases h : i = j <;> simp [h]
  rw [e]; exact k⟩
theorem z_isN (k : Q (.bl (decide (x = .non))) H) : rIsX x .non H Q := ⟨.inl rfl, k⟩
theorem z_isB {b : Bool} (k : Q (.bl (decide (x = .bl b))) H) : rIsX x (.bl b) H Q := ⟨.inr ⟨b, rfl⟩, k⟩
end
end Mur
/-! Data in the heap (Dv) that stays; isinstance by kinds. -/
namespace Mur
open PySem hiding start
open PySem.Spec L2
open PyProof.Rows hiding St
theorem _root_.L2.Same.new {H : Hp} {p : Addr} {o : HO} (h : H p = none) : Same H (upd H p o) := fun a u e => by
  rw [upd_ne (ne_of_none e h)]; exact e
theorem _root_.L2.Same.set {H H' : Hp} {p : Addr} {o : HO} (e : Same H H') (h : H p = none) : Same H (upd H' p o) := fun a u q => by
  rw [upd_ne (ne_of_none q h)]; exact e a u q
theorem _root_.L2.Same.tup {K : PySem.W.Frag} {H H' : Hp} {a : Addr} {xs : List V} (e : Same H H') (h : SqT K H a xs) : SqT K H' a xs := by
  rcases h with (h | ⟨o, h⟩) | h
  · exact .inl (.inl (e _ _ h))
  · exact .inl (.inr ⟨o, e _ _ h⟩)
  · exact .inr h
mutual
inductive Dv (H : Hp) : V → PyData → Prop
  | non : Dv H .non .none
  | bl (b : Bool) : Dv H (.bl b) (.bool b)
  | int (i : Int) : Dv H (.int i) (.int i)
  | str (x : Str) : Dv H (.str x) (.str x)
  | lst {a : Addr} {xs : List V} {ds : List PyData} : H a = some (.lst xs) → DvAll H xs ds → Dv H (.ref a) (.list ds)
  | tup {a : Addr} {xs : List V} {ds : List PyData} : H a = some (.tup xs) → DvAll H xs ds → Dv H (.ref a) (.tuple ds)
inductive DvAll (H : Hp) : List V → List PyData → Prop
  | nil : DvAll H [] []
  | cons {v : V} {vs : List V} {d : PyData} {ds : List PyData} : Dv H v d → DvAll H vs ds → DvAll H (v :: vs) (d :: ds)
end
mutual
theorem dv_same {H H' : Hp} (e : Same H H') : ∀ {d : PyData} {v : V}, Dv H v d → Dv H' v d
  | _, _, .non => .non
  | _, _, .bl b => .bl b
  | _, _, .int i => .int i
  | _, _, .str x => .str x
  | _, _, .lst h a => .lst (e _ _ h) (dvAll_same e a)
  | _, _, .tup h a => .tup (e _ _ h) (dvAll_same e a)
theorem dvAll_same {H H' : Hp} (e : Same H H') : ∀ {ds : List PyData} {vs : List V}, DvAll H vs ds → DvAll H' vs ds
  | _, _, .nil => .nil
  | _, _, .cons h t => .cons (dv_same e h) (dvAll_same e t)
end
mutual
theorem Dv.dp {K : PySem.W.Frag} {H : Hp} : ∀ {d : PyData} {v : V}, Dv H v d → Dp K H v d
  | _, _, .non => .non
  | _, _, .bl b => .bl b
  | _, _, .int i => .int i
  | _, _, .str x => .str x
  | _, _, .lst h a => .lst (SqL.of h) (DvAll.dp a)
  | _, _, .tup h a => .tup (SqT.of h) (DvAll.dp a)
theorem DvAll.dp {K : PySem.W.Frag} {H : Hp} : ∀ {ds : List PyData} {vs : List V}, DvAll H vs ds → DpAll K H vs ds
  | _, _, .nil => .nil
  | _, _, .cons h t => .cons (Dv.dp h) (DvAll.dp t)
end
theorem DvAll.len {H : Hp} : ∀ {ds : List PyData} {vs : List V}, DvAll H vs ds → vs.length = ds.length
  | _, _, .nil => rfl
  | _, _, .cons _ t => by simp [t.len]
theorem DvAll.get {H : Hp} : ∀ {ds : List PyData} {vs : List V} {i : Nat} {v : V}, DvAll H vs ds → vs[i]? = some v → ∃ d, ds[i]? = some d ∧ Dv H v d
  | _, _, _, _, .nil, e => by simp at e
  | _, _, 0, _, .cons h _, e => by simp at e; subst e; exact ⟨_, rfl, h⟩
  | _, _, i + 1, v, .cons _ t, e => by
    obtain ⟨d, h1, h2⟩ := DvAll.get (i := i) (v := v) t (by simpa using e)
    exact ⟨d, by simpa using h1, h2⟩
theorem DvAll.ints {H : Hp} : ∀ ns : List Int, DvAll H (ns.map V.int) (ns.map PyData.int)
  | [] => .nil
  | n :: ns => .cons (.int n) (DvAll.ints ns)
/-! how deep data are: scalars 0 -/
mutual
def dpt : PyData → Nat
  | .list ds => dptAll ds + 1
  | .tuple ds => dptAll ds + 1
  | _ => 0
def dptAll : List PyData → Nat
  | [] => 0
  | d :: ds => max (dpt d) (dptAll ds)
end
theorem dpt_mem : ∀ {ds : List PyData} {i : Nat} {d : PyData}, ds[i]? = some d → dpt d ≤ dptAll ds
  | [], i, d, e => by simp at e
  | x :: ds, 0, d, e => by simp at e; subst e; simp only [dptAll]; omega
  | x :: ds, i + 1, d, e => by
    have := dpt_mem (ds := ds) (i := i) (d := d) (by simpa using e)
    simp only [dptAll]; omega
/-! ### isinstance -/
def tyD : PyData → String
  | .none => "NoneType"
  | .bool _ => "bool"
  | .int _ => "int"
  | .str _ => "str"
  | .list _ => "list"
  | .tuple _ => "tuple"
  | _ => ""
theorem Dv.ty {K : PySem.W.Frag} {H : Hp} {d : PyData} {v : V} (h : Dv H v d) : TyX K H v (.type (tyD d)) := by
  cases h with
  | non => exact .base .non
  | bl b => exact .base (.bl b)
  | int i => exact .base (.int i)
  | str x => exact .base (.str x)
  | lst h _ => exact .base (.lst h)
  | tup h _ => exact .base (.tup h)
theorem z_isi {K : PySem.W.Frag} {H : Hp} {Q : VK} {x : V} {a n : String} {b : Bool} (ty : TyX K H x (.type a)) (e : kitB a n = some b) (k : Q (.bl b) H) : rIsi K [x, .ty n] H Q := ⟨x, .ty n, .type a, .type n, b, rfl, .ty n, ty, kit_ty e, k⟩
section
variable {K : PySem.W.Frag} {H : Hp} {Q : VK} {n : String} {a : Addr} {xs : List V}
theorem z_isI {i : Int} (b : Bool) (e : kitB "int" n = some b) (k : Q (.bl b) H) : rIsi K [.int i, .ty n] H Q := z_isi (.base (.int i)) e k
theorem z_isNn (b : Bool) (e : kitB "NoneType" n = some b) (k : Q (.bl b) H) : rIsi K [.non, .ty n] H Q := z_isi (.base .non) e k
theorem z_isBl {i : Bool} (b : Bool) (e : kitB "bool" n = some b) (k : Q (.bl b) H) : rIsi K [.bl i, .ty n] H Q := z_isi (.base (.bl i)) e k
theorem z_isS {i : Str} (b : Bool) (e : kitB "str" n = some b) (k : Q (.bl b) H) : rIsi K [.str i, .ty n] H Q := z_isi (.base (.str i)) e k
theorem z_isT (b : Bool) (h : H a = some (.tup xs)) (e : kitB "tuple" n = some b) (k : Q (.bl b) H) : rIsi K [.ref a, .ty n] H Q := z_isi (.base (.tup h)) e k
theorem z_isL (b : Bool) (h : H a = some (.lst xs)) (e : kitB "list" n = some b) (k : Q (.bl b) H) : rIsi K [.ref a, .ty n] H Q := z_isi (.base (.lst h)) e k
end
/-! ### len, items, lists -/
def rLenU (K : PySem.W.Frag) : List V → Hp → VK → Prop := fun xs H Q => ∃ x n, xs = [x] ∧ LenV K x H n ∧ Q (.int n) H
theorem call_lenU {X : Cx} : CallR X (.builtin "len") (rLenU X.K) := call_len
def rLstU (K : PySem.W.Frag) : List V → Hp → VK → Prop := fun xs H Q => ∃ p ys, xs = [.ref p] ∧ (SqL K H p ys ∨ SqT K H p ys) ∧ ∀ l, H l = none → Q (.ref l) (upd H l (.lst ys))
theorem call_listU {X : Cx} : CallR X (.type "list") (rLstU X.K) := call_list_of
def rTupU (K : PySem.W.Frag) : List V → Hp → VK → Prop := fun xs H Q => ∃ p ys, xs = [.ref p] ∧ ((SqL K H p ys ∧ ∀ l, H l = none → Q (.ref l) (upd H l (.tup ys))) ∨ (SqT K H p ys ∧ Q (.ref p) H))
theorem call_tupleU {X : Cx} : CallR X (.type "tuple") (rTupU X.K) := call_tuple_of
def rAbs : List V → Hp → VK → Prop := fun xs H Q => ∃ i, xs = [.int i] ∧ Q (.int (if i < 0 then -i else i)) H
theorem call_absU {X : Cx} : CallR X (.builtin "abs") rAbs := call_abs
def rInt1 : List V → Hp → VK → Prop := fun xs H Q => (∃ i, xs = [.int i] ∧ Q (.int i) H) ∨ ∃ k, xs = [.bl k] ∧ Q (.int (if k then 1 else 0)) H
theorem call_intU {X : Cx} : CallR X (.type "int") rInt1 := call_int1
def rGetL (K : PySem.W.Frag) : R2 := fun x y H Q => ∃ p xs, ∃ n : Nat, ∃ v, x = .ref p ∧ y = .int (n : Int) ∧ SqL K H p xs ∧ xs[n]? = some v ∧ Q v H
theorem get_list {X : Cx} : PGet X (rGetL X.K) := by
  intro pins s σ H x y v u Q I rx ry h
  obtain ⟨p, xs, n, z, rfl, rfl, hp, e, q⟩ := h
  cases (show v = Value.ref p from rx)
  obtain ⟨t, rfl⟩ := ry
  obtain ⟨its, rv, pl, hz⟩ := I.list hp
  obtain ⟨w', hw, rw'⟩ := rv.get e
  have hn := line63
  have hl := (List.getElem?_eq_some_iff.mp e).1
  exact wpAny_getItem_list pl.isList (by omega) (by omega) (by simpa using hw) ⟨z, H, I, rw', q⟩
/-! the rules with the written part named, so that they fit within a comprehension's block, too -/
section
variable {X : Cx} {e o b value : Expr} {es : List Expr} {ta te to tb tv : TE} {t : TA} {f : Str} {pos pos' apos cpos : Pos}
theorem k_fld (K : PySem.W.Frag) (he : PE X e ta) (hb : attributeBase e f X.env (eval e X.env) = eval e X.env) (hK : X.K = K := by rfl) : PE X (.Attribute e f pos) (tFld K ta f) := by subst hK; exact pe_fld he hb
theorem k_sfld (K : PySem.W.Frag) (ha : PE X o ta) (hv : PE X value tv) (hs : swapsWith value (some (.Attribute o f pos')) pos.line X.env = pure false) (hK : X.K = K := by rfl) : PS X (.Assign [.Attribute o f pos'] value pos) (sFld K ta tv f) := by subst hK; exact ps_fld ha hv hs
theorem k_ix (K : PySem.W.Frag) (ha : PE X o ta) (hb : PE X b tb) (hs : PlainIx b) (hK : X.K = K := by rfl) : PE X (.Subscript o b pos) (tOp (rIx K) ta tb) := by subst hK; exact pe_ix ix_seq ha hb hs
theorem k_eq (K : PySem.W.Frag) (hu : X.A.units + 64 < cLine) (hK : X.K = K := by rfl) : OpR X (compareOp .Eq) (rEqU K) := by subst hK; exact op_eqU hu
theorem k_ne (K : PySem.W.Frag) (hu : X.A.units + 64 < cLine) (hK : X.K = K := by rfl) : OpR X (compareOp .NotEq) (rNeU K) := by subst hK; exact op_neU hu
theorem k_add (K : PySem.W.Frag) (hK : X.K = K := by rfl) : OpR X (binaryOp .Add) (rAddU K) := by subst hK; exact op_addU
theorem k_isi (K : PySem.W.Frag) (hK : X.K = K := by rfl) : CallR X (.builtin "isinstance") (rIsi K) := by subst hK; exact call_isi
theorem k_len (K : PySem.W.Frag) (hK : X.K = K := by rfl) : CallR X (.builtin "len") (rLenU K) := by subst hK; exact call_lenU
theorem k_list (K : PySem.W.Frag) (hK : X.K = K := by rfl) : CallR X (.type "list") (rLstU K) := by subst hK; exact call_listU
theorem k_tuple (K : PySem.W.Frag) (hK : X.K = K := by rfl) : CallR X (.type "tuple") (rTupU K) := by subst hK; exact call_tupleU
theorem k_sum (K : PySem.W.Frag) (hc : X.calm = true) (hK : X.K = K := by rfl) : CallR X (.builtin "sum") (rSum K) := by subst hK; exact cr_sum hc
theorem k_max (K : PySem.W.Frag) (hc : X.calm = true) (hK : X.K = K := by rfl) : CallR X (.builtin "max") (rMax K) := by subst hK; exact cr_max hc
theorem k_min (K : PySem.W.Frag) (hc : X.calm = true) (hK : X.K = K := by rfl) : CallR X (.builtin "min") (rMin K) := by subst hK; exact cr_min hc
theorem k_in (K : PySem.W.Frag) (hK : X.K = K := by rfl) : OpR X (compareOp .In) (rIn K false) := by subst hK; exact op_in_seq
theorem k_notin (K : PySem.W.Frag) (hK : X.K = K := by rfl) : OpR X (compareOp .NotIn) (rIn K true) := by subst hK; exact op_notIn_seq
theorem k_sll (K : PySem.W.Frag) (hK : X.K = K := by rfl) : SlR X (rSlL K) := by subst hK; exact sl_list
theorem k_slt (K : PySem.W.Frag) (hK : X.K = K := by rfl) : SlR X (rSlA K) := by subst hK; exact sl_tupA
theorem k_get (K : PySem.W.Frag) (hK : X.K = K := by rfl) : PGet X (rGetL K) := by subst hK; exact get_list
theorem k_pil {tg l : Expr} {tl : TE} (K : PySem.W.Frag) (hl : PE X l tl) (hK : X.K = K := by rfl) : PI X tg l (iList K tl) := by subst hK; exact pi_list hl
theorem k_pit {tg l : Expr} {tl : TE} (K : PySem.W.Frag) (hl : PE X l tl) (hK : X.K = K := by rfl) : PI X tg l (iTup K tl) := by subst hK; exact pi_tup hl
theorem k_pgt {k : Nat} {tt : TGs} {n : Nat} (K : PySem.W.Frag) (hc : X.calm = true) (h : PGs X es tt) (hK : X.K = K := by rfl)
    (hn : (assignEach es X.env).length = n := by rfl) (hst : (assignEach es X.env).findIdx? (·.1) = none := by rfl) : PG X (.Tuple es k pos) (gTup K n tt) := by subst hK; exact pg_tup hc h hn hst
theorem k_enum {p tpos : Pos} {elts : List Expr} {kk : Nat} (K : PySem.W.Frag) (hg : Gl X "enumerate") (hm : X.mg "enumerate" = none) (ha : PA X [e] t) (hK : X.K = K := by rfl) (hs : starEach [e] X.env = [(false, eval e X.env)] := by rfl) :
    PI X (.Tuple elts kk tpos) (.Call (.Name "enumerate" p) [e] [] pos) (iEnum K t) := by subst hK; exact pi_enum hg hm ha hs
theorem k_zip {e2 : Expr} {p tpos : Pos} {elts : List Expr} {kk : Nat} (K : PySem.W.Frag) (hg : Gl X "zip") (hm : X.mg "zip" = none) (ha : PA X [e, e2] t) (hK : X.K = K := by rfl)
    (hs : starEach [e, e2] X.env = (false, eval e X.env) :: starEach [e2] X.env := by rfl) (hpl : (backTo pos (starEach [e2] X.env)).any (·.1) = false := by rfl) :
    PI X (.Tuple elts kk tpos) (.Call (.Name "zip" p) [e, e2] [] pos) (RZ.iZipA K t) := by subst hK; exact RZ.pi_zipA hg hm ha hs hpl
theorem k_bm {T id : String} {name : Str} {r : V → List V → Hp → VK → Prop} (K : PySem.W.Frag) (pa : PlainAttrs T) (slot : Slot T name id) (hty : typeOf (.builtin id) = pure (.type "method_descriptor")) (hm : MtR X id r) (ho : PE X o to) (ha : PA X (e :: es) t) (hK : X.K = K := by rfl)
    (hbase : attributeBase o name X.env (eval o X.env) = eval o X.env := by rfl)
    (hfew : ((backTo cpos (starEach (e :: es) X.env)).all (fun x => !x.1) && (backToKw cpos (keywordEach [] X.env)).all (fun x => x.1.isSome)
      && decide ((e :: es).length + ([] : List Keyword).length + (if ([] : List Keyword).isEmpty then 0 else 1) < 30)) = true := by rfl)
    (hline : (apos.endLine == cpos.line) = true := by rfl) (hs : starEach (e :: es) X.env = (false, eval e X.env) :: starEach es X.env := by rfl) (hplain : (backTo cpos (starEach es X.env)).any (·.1) = false := by rfl) :
    PE X (.Call (.Attribute o name apos) (e :: es) [] cpos) (tBM K T r to t) := by subst hK; exact pe_bm pa slot hty hm ho ha hbase hfew hline hs hplain
theorem k_bm0 {T id : String} {name : Str} {r : V → List V → Hp → VK → Prop} (K : PySem.W.Frag) (pa : PlainAttrs T) (slot : Slot T name id) (hty : typeOf (.builtin id) = pure (.type "method_descriptor")) (hm : MtR X id r) (ho : PE X o to) (hK : X.K = K := by rfl)
    (hbase : attributeBase o name X.env (eval o X.env) = eval o X.env := by rfl) (hline : (apos.endLine == cpos.line) = true := by rfl) : PE X (.Call (.Attribute o name apos) [] [] cpos) (tBM0 K T r to) := by subst hK; exact pe_bm0 pa slot hty hm ho hbase hline
end
section
variable {K : PySem.W.Frag} {H : Hp} {Q : VK} {a l : Addr} {xs : List V} {v y : V} {i : Int}
theorem z_lenL (h : SqL K H a xs) (k : Q (.int (xs.length : Nat)) H) : rLenU K [.ref a] H Q := ⟨.ref a, _, rfl, .inl ⟨_, h, rfl⟩, k⟩
theorem z_lenT (h : SqT K H a xs) (k : Q (.int (xs.length : Nat)) H) : rLenU K [.ref a] H Q := ⟨.ref a, _, rfl, .inr ⟨_, h, rfl⟩, k⟩
theorem z_lenS {z : Str} (h : z.length ≤ sizeLine) (k : Q (.int (z.length : Nat)) H) : rLenU K [.str z] H Q := ⟨.str z, _, rfl, ⟨h, rfl⟩, k⟩
theorem z_listL (h : SqL K H a xs) (k : ∀ l, H l = none → Q (.ref l) (upd H l (.lst xs))) : rLstU K [.ref a] H Q := ⟨a, xs, rfl, .inl h, k⟩
theorem z_listT (h : SqT K H a xs) (k : ∀ l, H l = none → Q (.ref l) (upd H l (.lst xs))) : rLstU K [.ref a] H Q := ⟨a, xs, rfl, .inr h, k⟩
theorem z_tupL (h : SqL K H a xs) (k : ∀ l, H l = none → Q (.ref l) (upd H l (.tup xs))) : rTupU K [.ref a] H Q := ⟨a, xs, rfl, .inl ⟨h, k⟩⟩
theorem z_new {o : HO} (k : ∀ p H2, Same H H2 → H p = none → H2 p = some o → Q (.ref p) H2) : ∀ p, H p = none → Q (.ref p) (upd H p o) := fun p hp => k p _ (Same.new hp) hp upd_same
theorem z_newD {o : HO} {c : Prop} (hc : c) (k : ∀ p H2, Same H H2 → H p = none → H2 p = some o → Q (.ref p) H2) : c ∧ ∀ p, H p = none → Q (.ref p) (upd H p o) := ⟨hc, z_new k⟩
theorem new_same {p : Addr} {o : HO} {H2 : Hp} (hp : H p = none) (e : upd H p o = H2) : Same H H2 := e ▸ Same.new hp
theorem new_at {p : Addr} {o : HO} {H2 : Hp} (e : upd H p o = H2) : H2 p = some o := e ▸ upd_same
theorem same_to {H H' : Hp} {a : Addr} {o : HO} (s : Same H H') (h : H a = some o) : H' a = some o := s _ _ h
theorem z_abs (k : Q (.int (if i < 0 then -i else i)) H) : rAbs [.int i] H Q := ⟨i, rfl, k⟩
theorem z_int1 (k : Q (.int i) H) : rInt1 [.int i] H Q := .inl ⟨i, rfl, k⟩
theorem z_intB {b : Bool} (k : Q (.int (if b then 1 else 0)) H) : rInt1 [.bl b] H Q := .inr ⟨b, rfl, k⟩
theorem z_ixL (h : SqL K H a xs) (e : atI xs i = some v) (k : Q v H) : rIx K (.ref a) (.int i) H Q := .inl ⟨a, xs, i, v, rfl, rfl, h, e, k⟩
theorem z_ixT (h : SqT K H a xs) (e : atI xs i = some v) (k : Q v H) : rIx K (.ref a) (.int i) H Q := .inr (.inl ⟨a, xs, i, v, rfl, rfl, h, e, k⟩)
theorem z_tyL {B : Prop} (h : SqL K H a xs) (k : B) : tyV K "list" (.ref a) H ∧ B := ⟨.inl ⟨rfl, _, h⟩, k⟩
theorem z_bm {T : String} {r : V → List V → Hp → VK → Prop} {to : TE} {t : TA} {σ : L2.St} (h : to σ H fun x H1 => tyV K T x H1 ∧ t σ H1 fun xs H2 => r x xs H2 Q) : tBM K T r to t σ H Q := h
theorem z_bm0 {T : String} {r : V → List V → Hp → VK → Prop} {to : TE} {σ : L2.St} (h : to σ H fun x H1 => tyV K T x H1 ∧ r x [] H1 Q) : tBM0 K T r to σ H Q := h
theorem z_app (h : H l = some (.lst xs)) (c : xs.length < sizeLine) (k : Q .non (upd H l (.lst (xs ++ [y])))) : rAppend (.ref l) [y] H Q := ⟨l, xs, y, rfl, rfl, h, c, k⟩
theorem atI_of {n : Nat} (h : xs[n]? = some v) (e : i = (n : Int)) : atI xs i = some v := by rw [e]; exact atI_nat h
/-! a method's call, an attribute -/
def rDNi (y : V) : V → Hp → VK → Prop := fun x H Q => ∃ a o, x = .ref a ∧ DGet H a y o ∧ Q (.bl (!o.isSome)) H
def rDIn (y : V) : V → Hp → VK → Prop := fun x H Q => ∃ a o, x = .ref a ∧ DGet H a y o ∧ Q (.bl o.isSome) H
def rDGt (x : V) : V → Hp → VK → Prop := fun y H Q => ∃ a v, x = .ref a ∧ DGet H a y (some v) ∧ Q v H
def rDPt (v x : V) : V → Hp → (Hp → Prop) → Prop := fun y H R => ∃ a H4, x = .ref a ∧ DPut H a y v H4 ∧ R H4
theorem z_dnotin {ty td : TE} {σ : L2.St} (h : ty σ H fun y H1 => td σ H1 fun x H2 => rDNi y x H2 Q) : tDNotIn ty td σ H Q := h
theorem z_din {ty td : TE} {σ : L2.St} (h : ty σ H fun y H1 => td σ H1 fun x H2 => rDIn y x H2 Q) : tDIn ty td σ H Q := h
theorem z_dget {ty td : TE} {σ : L2.St} (h : td σ H fun x H1 => ty σ H1 fun y H2 => rDGt x y H2 Q) : tDGet td ty σ H Q := h
theorem z_dput {ty td tv : TE} {σ : L2.St} {D : Ends} (h : tv σ H fun v H1 => td σ H1 fun x H2 => ty σ H2 fun y H3 => rDPt v x y H3 (D.nx σ)) : sDPut td ty tv D σ H := h
theorem z_dniR {o : Option V} (h : DGet H a y o) (k : Q (.bl (!o.isSome)) H) : rDNi y (.ref a) H Q := ⟨a, o, rfl, h, k⟩
theorem z_dinR {o : Option V} (h : DGet H a y o) (k : Q (.bl o.isSome) H) : rDIn y (.ref a) H Q := ⟨a, o, rfl, h, k⟩
theorem z_dgetR (h : DGet H a y (some v)) (k : Q v H) : rDGt (.ref a) y H Q := ⟨a, v, rfl, h, k⟩
theorem z_dputR {H4 : Hp} {R : Hp → Prop} (h : DPut H a y v H4) (k : R H4) : rDPt v (.ref a) y H R := ⟨a, H4, rfl, h, k⟩
def rFld (K : PySem.W.Frag) (f : Str) : V → Hp → VK → Prop := fun x H Q => ∃ a C dx fs v, x = .ref a ∧ H a = some (.ins C dx fs) ∧ Cls K C ∧ NoAttr K C f ∧ fs.lookup f = some v ∧ Q v H
theorem z_fld {ta : TE} {σ : L2.St} {f : Str} (h : ta σ H fun x H1 => rFld K f x H1 Q) : tFld K ta f σ H Q := h
theorem z_fldR {C dx : Addr} {fs : List (Str × V)} {f : Str} (h : H a = some (.ins C dx fs)) (c : Cls K C) (n : NoAttr K C f) (e : fs.lookup f = some v) (k : Q v H) : rFld K f (.ref a) H Q := ⟨a, C, dx, fs, v, rfl, h, c, n, e, k⟩
def rSfl (K : PySem.W.Frag) (f : Str) (y : V) : V → Hp → (Hp → Prop) → Prop := fun x H R => ∃ a C dx fs, x = .ref a ∧ H a = some (.ins C dx fs) ∧ Cls K C ∧ NoAttr K C f ∧ fs.length < 1000 ∧ R (upd H a (.ins C dx (putF f y fs)))
theorem z_sfld {ta tv : TE} {σ : L2.St} {D : Ends} {f : Str} (h : tv σ H fun y H1 => ta σ H1 fun x H2 => rSfl K f y x H2 (D.nx σ)) : sFld K ta tv f D σ H := h
theorem z_sfldR {C dx : Addr} {fs : List (Str × V)} {f : Str} {y : V} {R : Hp → Prop} {fs' : List (Str × V)} (h : H a = some (.ins C dx fs)) (c : Cls K C) (n : NoAttr K C f) (l : fs.length < 1000) (e : putF f y fs = fs') (k : R (upd H a (.ins C dx fs'))) :
    rSfl K f y (.ref a) H R := ⟨a, C, dx, fs, rfl, h, c, n, l, by rw [e]; exact k⟩
theorem z_dnewT {σ : L2.St} (h : ∀ p, H p = none → Q (.ref p) (upd H p (.dT []))) : tDNewT σ H Q := h
theorem z_dnewK {σ : L2.St} (h : ∀ p, H p = none → Q (.ref p) (upd H p (.dK []))) : tDNewK σ H Q := h
theorem z_meth {C : Addr} {m : Str} {sp : Sp} {E : XK} {ta : TE} {t : TA} {σ : L2.St} (h : ta σ H fun x H1 => ∃ a dx fs, x = .ref a ∧ H1 a = some (.ins C dx fs) ∧ fs.lookup m = none ∧ t σ H1 fun vs H2 => sp (x :: (vs ++ [])) H2 Q E) : tMeth C m sp [] E ta t σ H Q := h
theorem z_methR {C dx : Addr} {m : Str} {fs : List (Str × V)} {R : Prop} (h : H a = some (.ins C dx fs)) (e : fs.lookup m = none) (k : R) : ∃ a' dx fs, V.ref a = .ref a' ∧ H a' = some (.ins C dx fs) ∧ fs.lookup m = none ∧ R := ⟨a, dx, fs, rfl, h, e, k⟩
end
/-! loops, tuple targets -/
section
variable {K : PySem.W.Frag} {σ σ' : L2.St} {H : Hp} {D : Ends} {GQ : L2.St → Hp → Prop}
theorem z_for {wi : TI} {g : TG} {tb : TS} (h : wi σ H fun J H1 => ∃ W : Nat → Nat → L2.St → Hp → Prop, (∃ m, W 0 m σ H1) ∧ ∀ i m σ H, W i m σ H →
  (J.stop i H ∧ D.nx σ H) ∨ (J.go i H ∧ ∃ N : L2.St → Hp → Prop, (∀ σ' H', N σ' H' → ∃ m', m' < m ∧ W (i + 1) m' σ' H') ∧ ∀ x H', J.yld i H x H' → g x σ H' fun σ2 H2 => tb { D with nx := N, ct := N, bk := D.nx } σ2 H2)) : tFor wi g tb D σ H := h
theorem z_zipA {ta : TA} {R : It → Hp → Prop} (h : ta σ H fun vs H1 => ∃ a b xs ys, vs = [.ref a, .ref b] ∧ ((SqL K H1 a xs ∧ SqL K H1 b ys ∧ R (Itz K a b) H1) ∨ (SqT K H1 a xs ∧ SqT K H1 b ys ∧ R (RZ.ItzT K a b) H1))) : RZ.iZipA K ta σ H R := h
theorem z_enum {ta : TA} {R : It → Hp → Prop} (h : ta σ H fun vs H1 => ∃ a xs, vs = [.ref a] ∧ SqL K H1 a xs ∧ R (Ite K a) H1) : iEnum K ta σ H R := h
theorem z_iList {tl : TE} {R : It → Hp → Prop} (h : tl σ H fun x H1 => ∃ a, x = .ref a ∧ (∃ xs, SqL K H1 a xs) ∧ R (Itl K a) H1) : iList K tl σ H R := h
theorem z_iTup {tl : TE} {R : It → Hp → Prop} (h : tl σ H fun x H1 => ∃ a, x = .ref a ∧ (∃ xs, SqT K H1 a xs) ∧ R (Itt K a) H1) : iTup K tl σ H R := h
theorem z_rng1 {ta : TA} {R : It → Hp → Prop} (h : ta σ H fun vs H1 => ∃ j : Int, vs = [.int j] ∧ -(2 ^ 62) ≤ j ∧ j < 2 ^ 62 ∧ R (Itr 0 j.toNat) H1) : iRng1 ta σ H R := h
theorem z_rng2 {ta : TA} {R : It → Hp → Prop} (h : ta σ H fun vs H1 => ∃ i j : Int, vs = [.int i, .int j] ∧ (-(2 ^ 62) ≤ i ∧ i < 2 ^ 62 ∧ -(2 ^ 62) ≤ j ∧ j < 2 ^ 62) ∧ R (Itr i (j - i).toNat) H1) : iRng2 ta σ H R := h
theorem z_gTup {n : Nat} {t : TGs} {a : Addr} {xs : List V} (h : SqT K H a xs) (e : xs.length = n) (k : t xs σ H GQ) : gTup K n t (.ref a) σ H GQ := ⟨a, xs, rfl, h, e, k⟩
theorem z_gCons {t : TG} {u : TGs} {v : V} {r : List V} (k : t v σ H fun σ' H' => u r σ' H' GQ) : gCons t u (v :: r) σ H GQ := ⟨v, r, rfl, k⟩
theorem z_gNil (k : GQ σ H) : gNil [] σ H GQ := ⟨rfl, k⟩
theorem z_lc {wi : TI} {g : TG} {tt : TT} {te : TE} {vs : List Nat} {Q : VK} (h : wi σ H fun J H1 => ∀ D, H1 D = none → ∃ W : Nat → Nat → Hp → Prop, (∃ m, W 0 m (upd H1 D (.lst []))) ∧ ∀ i m H, W i m H →
  (J.stop i H ∧ Q (.ref D) H) ∨ (J.go i H ∧ ∃ Nx : Hp → Prop, (∀ H', Nx H' → ∃ m', m' < m ∧ W (i + 1) m' H') ∧ ∀ x H', J.yld i H x H' → g x (wipe σ vs) H' fun σ2 H2 => wipe σ2 vs = wipe σ vs ∧ tt σ2 H2 fun b H3 =>
    if b = true then te σ2 H3 fun y H4 => ∃ acc, H4 D = some (.lst acc) ∧ acc.length < sizeLine ∧ Nx (upd H4 D (.lst (acc ++ [y]))) else Nx H3)) : tLc wi g tt te vs σ H Q := h
theorem z_tyes {TQ : Bool → Hp → Prop} (h : TQ true H) : tYes σ H TQ := h
theorem z_ans {tt : TT} {TQ : Bool → Hp → Prop} (b : Bool) (h : ∀ R : Bool → Hp → Prop, R b H → tt σ H R) (k : TQ b H) : tt σ H TQ := h _ k
theorem z_augS {to ti te : TE} {tget : V → V → Hp → VK → Prop} {tip : TIp} {tset : TSet} (h : to σ H fun o H1 => ti σ H1 fun i H2 => tget o i H2 fun x H3 => te σ H3 fun y H4 => tip x y H4 fun z H5 => tset o i z H5 fun H6 => D.nx σ H6) : tAugS to ti te tget tip tset D σ H := h
theorem z_getL {a : Addr} {xs : List V} {n : Nat} {i : Int} {v : V} {Q : VK} (h : SqL K H a xs) (ei : i = (n : Int)) (e : xs[n]? = some v) (k : Q v H) : rGetL K (.ref a) (.int i) H Q := ⟨a, xs, n, v, rfl, by rw [ei], h, e, k⟩
theorem z_ipI {f : Int → Int → Int} {i j : Int} {Q : VK} (k : Q (.int (f i j)) H) : ipI f (.int i) (.int j) H Q := ⟨i, j, rfl, rfl, k⟩
theorem z_setL {a : Addr} {xs : List V} {n : Nat} {i : Int} {v : V} {R : Hp → Prop} (h : H a = some (.lst xs)) (ei : i = (n : Int)) (l : n < xs.length) (k : R (upd H a (.lst (xs.set n v)))) : rSetL (.ref a) (.int i) v H R :=
  ⟨a, xs, i, n, rfl, rfl, h, by rw [ei]; unfold ixN; rw [if_pos (by omega), if_pos (by omega)]; simp, k⟩
theorem z_gSub {to ti : TE} {t : TSet} {v : V} (h : to σ H fun o H1 => ti σ H1 fun i H2 => t o i v H2 fun H3 => GQ σ H3) : gSub to ti t v σ H GQ := h
theorem z_max {a : Addr} {ns : List Int} {Q : VK} (h : SqL K H a (ns.map V.int)) (l : 0 < ns.length) (k : ∀ m, m ∈ ns → (∀ y, y ∈ ns → y ≤ m) → Q (.int m) H) : rMax K [.ref a] H Q := ⟨a, ns, rfl, h, l, k⟩
theorem z_min {a : Addr} {ns : List Int} {Q : VK} (h : SqL K H a (ns.map V.int)) (l : 0 < ns.length) (k : ∀ m, m ∈ ns → (∀ y, y ∈ ns → m ≤ y) → Q (.int m) H) : rMin K [.ref a] H Q := ⟨a, ns, rfl, h, l, k⟩
theorem map_set {α : Type} (f : Nat → α) (n k : Nat) (v : α) : ((List.range n).map f).set k v = (List.range n).map fun j => if j = k then v else f j := by
  apply List.ext_getElem?
  intro i
  rw [List.getElem?_set, List.getElem?_map, List.getElem?_map, List.length_map, List.length_range]
  by_cases h : k = i
  · subst h
    by_cases hi : k < n
    · simp [hi]
    · simp [hi]
  · have h' : ¬ i = k := fun z => h z.symm
    by_cases hi : i < n <;> simp [h, h', hi]
theorem z_ntrue {A B : Prop} (k : B) : if (!true) = true then A else B := iteF k
theorem z_nfalse {A B : Prop} (k : A) : if (!false) = true then A else B := iteT k
end
/-! slices, dicts read with a word for what is not there, len(set(..)), locks, a try -/
section
variable {X : Cx} {a : Expr} {ta : TE} {p p2 q pos : Pos}
theorem k_lset (K : PySem.W.Frag) (hg : Gl X "len") (hm : X.mg "len" = none) (hg2 : Gl X "set") (hm2 : X.mg "set" = none) (ha : PE X a ta) (hc : X.calm = true := by rfl) (hK : X.K = K := by rfl)
    (na : starEach [a] X.env = (false, eval a X.env) :: starEach [] X.env := by rfl) : PE X (.Call (.Name "len" p) [.Call (.Name "set" p2) [a] [] q] [] pos) (RZ.tLenSetI K ta) := by subst hK; exact RZ.pe_lenSetI hg hm hg2 hm2 ha hc na
end
section
variable {K : PySem.W.Frag} {σ : L2.St} {H : Hp} {Q : VK}
def rLset (K : PySem.W.Frag) : V → Hp → VK → Prop := fun x H Q => ∃ (l : Addr) (ns : List Int), x = .ref l ∧ SqL K H l (ns.map V.int) ∧ ns.Nodup ∧ ns.length ≤ 4000 ∧ Q (.int (ns.length : Nat)) H
theorem z_lset {ta : TE} (h : ta σ H fun x H1 => rLset K x H1 Q) : RZ.tLenSetI K ta σ H Q := h
theorem z_lsetR {l : Addr} {ns : List Int} (h : SqL K H l (ns.map V.int)) (nd : ns.Nodup) (len : ns.length ≤ 4000) (k : Q (.int (ns.length : Nat)) H) : rLset K (.ref l) H Q := ⟨l, ns, rfl, h, nd, len, k⟩
theorem z_sl {r : V → Option Int → Option Int → Hp → VK → Prop} {te : TE} {tl th : TO} (h : te σ H fun x H1 => tl σ H1 fun l H2 => th σ H2 fun u H3 => r x l u H3 Q) : tSl r te tl th σ H Q := h
theorem z_noP {OQ : Option Int → Hp → Prop} (h : OQ none H) : tNoPart σ H OQ := h
theorem z_part {t : TE} {OQ : Option Int → Hp → Prop} (h : t σ H fun x H1 => ∃ i, x = .int i ∧ OQ (some i) H1) : tPart t σ H OQ := h
theorem z_slL {a : Addr} {xs ys : List V} {lo hi : Option Int} (h : SqL K H a xs) (e : cutV xs lo hi = ys) (k : ∀ p, H p = none → Q (.ref p) (upd H p (.lst ys))) : rSlL K (.ref a) lo hi H Q := ⟨a, xs, rfl, h, by rw [e]; exact k⟩
theorem cut_to (xs : List V) (n : Nat) : cutV xs none (some (n : Int)) = xs.take n := by
  unfold cutV
  rw [HT.sIx_none, HT.sIx_nat, List.drop_zero, Nat.sub_zero]
  rcases Nat.le_total n xs.length with h | h
  · rw [Nat.min_eq_left h]
  · rw [Nat.min_eq_right h, List.take_of_length_le (Nat.le_refl _), List.take_of_length_le h]
theorem cut_from (xs : List V) (n : Nat) : cutV xs (some (n : Int)) none = xs.drop n := by
  unfold cutV
  rw [HT.sIx_none, HT.sIx_nat]
  rcases Nat.le_total n xs.length with h | h
  · rw [Nat.min_eq_left h, List.take_of_length_le (by simp)]
  · rw [Nat.min_eq_right h, List.drop_eq_nil_of_le (Nat.le_refl _), List.drop_eq_nil_of_le h]; simp
theorem z_dget2 {td ty tx : TE} (h : td σ H fun x H1 => ∃ a, x = .ref a ∧ IsD H1 a ∧ ty σ H1 fun y H2 => tx σ H2 fun z H3 => ∃ o, DGet H3 a y o ∧ Q (o.getD z) H3) : tDGet2 td ty tx σ H Q := h
theorem z_isD {a : Addr} {R : Addr → Prop} (h : IsD H a) (k : R a) : ∃ a', V.ref a = .ref a' ∧ IsD H a' ∧ R a' := ⟨a, rfl, h, k⟩
theorem z_lockE {t : TE} {d : Addr} {u : HO} (h : H d = some u) (m : Mut (some u)) (k : ∀ od, t σ (upd H d (.frz od u)) fun v H' => H' d = some (.frz od u) ∧ Q v (upd H' d u)) : tLockE t σ H Q := ⟨d, u, h, m, k⟩
theorem z_lock {t : TS} {D : Ends} {d : Addr} {u : HO} (h : H d = some u) (m : Mut (some u))
    (k : ∀ od, t ⟨fun σ' H' => H' d = some (.frz od u) ∧ D.nx σ' (upd H' d u), fun v H' => H' d = some (.frz od u) ∧ D.rt v (upd H' d u), fun σ' H' => H' d = some (.frz od u) ∧ D.bk σ' (upd H' d u), fun σ' H' => H' d = some (.frz od u) ∧ D.ct σ' (upd H' d u)⟩ σ (upd H d (.frz od u))) : tLock t D σ H := ⟨d, u, h, m, k⟩
theorem z_keys {td : TE} {R : It → Hp → Prop} (h : td σ H fun x H1 => ∃ d o, x = .ref d ∧ ((∃ kvs, H1 d = some (.frz o (.dK kvs)) ∧ R (Itk d o kvs) H1) ∨ ∃ kvs, H1 d = some (.frz o (.dT kvs)) ∧ R (Itkt d o kvs) H1)) : iKeys td σ H R := h
theorem z_someI {n : Int} {R : Int → Prop} (k : R n) : ∃ i, V.int n = .int i ∧ R i := ⟨n, rfl, k⟩
theorem z_someB {n : Bool} {R : Bool → Prop} (k : R n) : ∃ i, V.bl n = .bl i ∧ R i := ⟨n, rfl, k⟩
theorem z_make {C : Addr} {sp : Sp} {E : XK} {t : TA} (h : t σ H fun vs H1 => ∀ x dx, H1 x = none → H1 dx = none → dx ≠ x → sp (.ref x :: (vs ++ [])) (upd (upd H1 dx (.own x)) x (.ins C dx [])) (fun v H2 => v = .non ∧ Q (.ref x) H2) E) : tMake C sp [] E t σ H Q := h
theorem z_methSl {C : Addr} {m : Str} {sp : Sp} {E : L2.St → XK} {ta : TE} {t : TA} (h : ta σ H fun x H1 => ∃ a dx fs, x = .ref a ∧ H1 a = some (.ins C dx fs) ∧ fs.lookup m = none ∧ t σ H1 fun vs H2 => sp (x :: vs) H2 Q (E σ)) : tMethSl C m sp E ta t σ H Q := h
end
/-! equal data -/
theorem z_eqSame {K : PySem.W.Frag} {H : Hp} {Q : VK} {x y : V} {d : PyData} (hx : Dv H x d) (hy : Dv H y d) (hs : SeqAt.shaped d = true) (he : PyData.eqv d d = true) (k : Q (.bl true) H) : rEqU K x y H Q := .inr ⟨d, d, hx.dp, hy.dp, hs, hs, by rw [he]; exact k⟩
theorem z_neSame {K : PySem.W.Frag} {H : Hp} {Q : VK} {x y : V} {d : PyData} (hx : Dv H x d) (hy : Dv H y d) (hs : SeqAt.shaped d = true) (he : PyData.eqv d d = true) (k : Q (.bl false) H) : rNeU K x y H Q := .inr ⟨d, d, hx.dp, hy.dp, hs, hs, by rw [he]; exact k⟩
theorem mulS {i j : Int} (h1 : i.natAbs < 2 ^ 64) (h2 : j.natAbs < 2 ^ 64) : CMulX i j := mulx_ok h1 h2 (by decide)
theorem sz1000 {n : Nat} (h : n ≤ 100000) : n ≤ sizeLine := Nat.le_trans h (by decide)
theorem szlt {n : Nat} (h : n < 100000) : n < sizeLine := Nat.lt_of_lt_of_le h (by decide)
/-! a def that is never reached, recursion by levels -/
theorem Fk.no {P : Program} {w : World} {K : PySem.W.Frag} {mg : Str → Option Value} {base : Heap} {ps : List Str} {x qual : Str} {params : Arguments} {body : List Stmt} {scope : Scope} {f : Addr} {sp : Sp} (F : ∃ fd, FunD K x qual params body scope [] [] f fd)
    (hb : ∀ (kV doc pm : Value) (an : Option Addr) (cdv ct : Value) (us : List Value), us.length = ps.length → bindArgs (PySem.W.fnOf x qual params body scope .none kV doc pm an cdv ct) ⟨us, []⟩ = pure (ps.zip us)) (hn : ∀ vs H Q E, ¬ sp vs H Q E) :
    Fk P w K mg base 0 f ps sp := by
  obtain ⟨fd, F⟩ := F
  exact ⟨⟨fd, ⟨fun vs H Q E h => absurd h (hn vs H Q E), fun _ _ _ _ _ _ _ _ _ _ _ _ _ h => absurd h (hn _ _ _ _)⟩, F.bindsN hb⟩, F.kp⟩
end Mur
/-! Pictures, plain mathematics. -/
namespace Mur
open PySem hiding start
open PySem.Spec L2
open PyProof.Rows hiding St
inductive Pic where
  | p (c : Int)
  | q (a b c d : Pic)
  deriving DecidableEq
namespace Pic
def depth : Pic → Nat
  | .p _ => 0
  | .q a b c d => 1 + max (max a.depth b.depth) (max c.depth d.depth)
def parts : Pic → List Pic
  | .p _ => []
  | .q a b c d => [a, b, c, d]
/-- four pictures as quarters -/
def mk (a b c d : Pic) : Pic := if a = b ∧ b = c ∧ c = d ∧ a.depth = 0 then a else .q a b c d
/-- how many cells of the colour k at its own depth -/
def cnt : Pic → Int → Int
  | .p c, k => if k = c then 1 else 0
  | .q a b c d, k =>
    let m := max (max a.depth b.depth) (max c.depth d.depth)
    cnt a k * 4 ^ (m - a.depth) + cnt b k * 4 ^ (m - b.depth) + cnt c k * 4 ^ (m - c.depth) + cnt d k * 4 ^ (m - d.depth)
def sums (P : Pic) : List Int := (List.range 10).map fun k : Nat => P.cnt ((k : Nat) : Int)
def ok : Pic → Prop
  | .p c => 0 ≤ c ∧ c ≤ 9
  | .q a b c d => (Pic.q a b c d).depth ≤ 12 ∧ ¬ (a = b ∧ b = c ∧ c = d ∧ a.depth = 0)
end Pic
/-- the number of a picture in the store -/
def ix (ps : List Pic) (P : Pic) : Nat := ps.idxOf P
def nodeOf (ps : List Pic) : Pic → List Int
  | .p c => [c]
  | .q a b c d => [(ix ps a : Nat), (ix ps b : Nat), (ix ps c : Nat), (ix ps d : Nat)]
def PartsIn (ps : List Pic) (P : Pic) : Prop := ∀ Q ∈ P.parts, Q ∈ ps
structure PInv (ps : List Pic) : Prop where
  nd : ps.Nodup
  cl : ∀ P ∈ ps, PartsIn ps P
  ok : ∀ P ∈ ps, P.ok
theorem ix_lt {ps : List Pic} {P : Pic} (h : P ∈ ps) : ix ps P < ps.length := List.idxOf_lt_length_of_mem h
theorem ix_get {ps : List Pic} {P : Pic} (h : P ∈ ps) : ps[ix ps P]? = some P := by
  rw [List.getElem?_eq_getElem (ix_lt h)]
  exact congrArg some (List.getElem_idxOf (ix_lt h))
theorem ix_inj {ps : List Pic} {P Q : Pic} (hp : P ∈ ps) (hq : Q ∈ ps) (e : ix ps P = ix ps Q) : P = Q := by
  have a := ix_get hp
  rw [e, ix_get hq] at a
  exact (Option.some.inj a).symm
theorem ix_app {ps qs : List Pic} {P : Pic} (h : P ∈ ps) : ix (ps ++ qs) P = ix ps P := by
  unfold ix; rw [List.idxOf_append, if_pos h]
theorem ix_new {ps : List Pic} {P : Pic} (h : P ∉ ps) : ix (ps ++ [P]) P = ps.length := by
  unfold ix; rw [List.idxOf_append, if_neg h]; simp
theorem ix_of {ps : List Pic} (nd : ps.Nodup) {i : Nat} {P : Pic} (h : ps[i]? = some P) : ix ps P = i := by
  have hm : P ∈ ps := List.mem_of_getElem? h
  have hi : i < ps.length := (List.getElem?_eq_some_iff.mp h).1
  have a := ix_get hm
  exact (List.getElem?_inj (ix_lt hm) nd).mp (a.trans h.symm)
theorem node_app {ps qs : List Pic} {P : Pic} (h : PartsIn ps P) : nodeOf (ps ++ qs) P = nodeOf ps P := by
  cases P with
  | p c => rfl
  | q a b c d => simp only [nodeOf]; rw [ix_app (h a (by simp [Pic.parts])), ix_app (h b (by simp [Pic.parts])), ix_app (h c (by simp [Pic.parts])), ix_app (h d (by simp [Pic.parts]))]
theorem node_inj {ps : List Pic} {P Q : Pic} (hp : PartsIn ps P) (hq : PartsIn ps Q) (e : nodeOf ps P = nodeOf ps Q) : P = Q := by
  cases P with
  | p c => cases Q with
    | p c' => simp [nodeOf] at e; rw [e]
    | q _ _ _ _ => simp [nodeOf] at e
  | q a b c d => cases Q with
    | p c' => simp [nodeOf] at e
    | q a' b' c' d' =>
      simp only [nodeOf, List.cons.injEq, and_true, Int.ofNat_inj] at e
      obtain ⟨e1, e2, e3, e4⟩ := e
      rw [ix_inj (hp a (by simp [Pic.parts])) (hq a' (by simp [Pic.parts])) e1, ix_inj (hp b (by simp [Pic.parts])) (hq b' (by simp [Pic.parts])) e2,
        ix_inj (hp c (by simp [Pic.parts])) (hq c' (by simp [Pic.parts])) e3, ix_inj (hp d (by simp [Pic.parts])) (hq d' (by simp [Pic.parts])) e4]
theorem PartsIn.app {ps qs : List Pic} {P : Pic} (h : PartsIn ps P) : PartsIn (ps ++ qs) P := fun Q hq => List.mem_append_left _ (h Q hq)
theorem PInv.add {ps : List Pic} {P : Pic} (h : PInv ps) (hn : P ∉ ps) (hp : PartsIn ps P) (ho : P.ok) : PInv (ps ++ [P]) where
  nd := by
    rw [List.nodup_append]
    refine ⟨h.nd, by simp, ?_⟩
    intro a ha b hb
    simp at hb
    subst hb
    rintro rfl
    exact hn ha
  cl := fun Q hq => by
    rcases List.mem_append.mp hq with q | q
    · exact (h.cl Q q).app
    · simp at q; subst q; exact hp.app
  ok := fun Q hq => by
    rcases List.mem_append.mp hq with q | q
    · exact h.ok Q q
    · simp at q; subst q; exact ho
theorem mk_parts {ps : List Pic} {a b c d : Pic} (h : PInv ps) (ha : a ∈ ps) (hb : b ∈ ps) (hc : c ∈ ps) (hd : d ∈ ps) : PartsIn ps (Pic.mk a b c d) := by
  unfold Pic.mk
  split
  · exact h.cl a ha
  · intro Q hq
    simp [Pic.parts] at hq
    rcases hq with rfl | rfl | rfl | rfl <;> assumption
theorem depth_zero {P : Pic} (h : P.depth = 0) : ∃ c, P = .p c := by
  cases P with
  | p c => exact ⟨c, rfl⟩
  | q a b c d => simp [Pic.depth] at h
/-! ### the table of what is known -/
abbrev key (l : List Int) : List Key := l.map Sum.inl
theorem key_inj {l m : List Int} (h : key l = key m) : l = m := by
  induction l generalizing m with
  | nil => cases m with
    | nil => rfl
    | cons _ _ => simp [key] at h
  | cons x l ih => cases m with
    | nil => simp [key] at h
    | cons y m =>
      simp only [key, List.map_cons, List.cons.injEq, Sum.inl.injEq] at h
      rw [h.1, ih h.2]
structure KnOk (ps : List Pic) (kvs : List (List Key × V)) : Prop where
  len : kvs.length = ps.length
  val : ∀ P, PartsIn ps P → valV kvs (key (nodeOf ps P)) = if P ∈ ps then some (.int (ix ps P : Nat)) else none
  mem : ∀ k v, valV kvs k = some v → ∃ P ∈ ps, PartsIn ps P ∧ k = key (nodeOf ps P)
theorem node_lt {ps : List Pic} {P : Pic} (h : PartsIn ps P) : ∀ a b c d, P = .q a b c d → ∀ z ∈ nodeOf ps P, z < ps.length := by
  rintro a b c d rfl z hz
  simp [nodeOf] at hz
  have e1 := ix_lt (h a (by simp [Pic.parts]))
  have e2 := ix_lt (h b (by simp [Pic.parts]))
  have e3 := ix_lt (h c (by simp [Pic.parts]))
  have e4 := ix_lt (h d (by simp [Pic.parts]))
  rcases hz with rfl | rfl | rfl | rfl <;> omega
theorem node_has {ps : List Pic} {N P : Pic} (hN : N ∉ ps) (hP : PartsIn (ps ++ [N]) P) (hn : ¬ PartsIn ps P) : ∃ a b c d, P = .q a b c d ∧ (ps.length : Int) ∈ nodeOf (ps ++ [N]) P := by
  cases P with
  | p c => exact absurd (fun Q hq => by simp [Pic.parts] at hq) hn
  | q a b c d =>
    refine ⟨a, b, c, d, rfl, ?_⟩
    have one : ∀ Q ∈ (Pic.q a b c d).parts, Q ∉ ps → ix (ps ++ [N]) Q = ps.length := by
      intro Q hQ hq
      rcases List.mem_append.mp (hP Q hQ) with z | z
      · exact absurd z hq
      · simp at z; subst z; exact ix_new hN
    by_cases h1 : a ∈ ps
    · by_cases h2 : b ∈ ps
      · by_cases h3 : c ∈ ps
        · by_cases h4 : d ∈ ps
          · exact absurd (fun Q hq => by
              simp [Pic.parts] at hq
              rcases hq with rfl | rfl | rfl | rfl <;> assumption) hn
          · simp [nodeOf, one d (by simp [Pic.parts]) h4]
        · simp [nodeOf, one c (by simp [Pic.parts]) h3]
      · simp [nodeOf, one b (by simp [Pic.parts]) h2]
    · simp [nodeOf, one a (by simp [Pic.parts]) h1]
theorem KnOk.add {ps : List Pic} {kvs : List (List Key × V)} {N : Pic} (h : KnOk ps kvs) (I : PInv ps) (hN : N ∉ ps) (hp : PartsIn ps N) : KnOk (ps ++ [N]) (kvs ++ [(key (nodeOf ps N), .int (ps.length : Nat))]) := by
  have hnone : valV kvs (key (nodeOf ps N)) = none := by rw [h.val N hp, if_neg hN]
  refine ⟨by simp [h.len], fun P hP => ?_, fun k v e => ?_⟩
  · rw [valV_snoc _ _ _ _ hnone]
    by_cases hin : PartsIn ps P
    · rw [node_app hin]
      by_cases e : key (nodeOf ps P) = key (nodeOf ps N)
      · have : P = N := node_inj hin hp (key_inj e)
        subst this
        rw [if_pos rfl, if_pos (by simp), ix_new hN]
      · rw [if_neg e, h.val P hin]
        by_cases hm : P ∈ ps
        · rw [if_pos hm, if_pos (by simp [hm]), ix_app hm]
        · have hne : P ≠ N := fun z => e (by rw [z])
          rw [if_neg hm, if_neg (by simp [hm, hne])]
    · obtain ⟨a, b, c, d, e, hl⟩ := node_has hN hP hin
      have hPn : P ∉ ps ++ [N] := by
        intro z
        rcases List.mem_append.mp z with z | z
        · exact hin (I.cl P z)
        · simp at z; subst z; exact hin hp
      rw [if_neg hPn]
      have key_ne : key (nodeOf (ps ++ [N]) P) ≠ key (nodeOf ps N) := by
        intro z
        have z := key_inj z
        rw [z] at hl
        cases N with
        | p c' => subst e; have := congrArg List.length z; simp [nodeOf] at this
        | q a' b' c' d' =>
          have := node_lt hp a' b' c' d' rfl _ hl
          omega
      rw [if_neg key_ne]
      cases q : valV kvs (key (nodeOf (ps ++ [N]) P)) with
      | none => rfl
      | some v =>
        exfalso
        obtain ⟨R, hR, hRp, z⟩ := h.mem _ _ q
        have z := key_inj z
        rw [z] at hl
        cases R with
        | p c' => subst e; have := congrArg List.length z; simp [nodeOf] at this
        | q a' b' c' d' =>
          have := node_lt hRp a' b' c' d' rfl _ hl
          omega
  · rw [valV_snoc _ _ _ _ hnone] at e
    split at e
    · rename_i hk
      exact ⟨N, by simp, hp.app, by rw [node_app hp, hk]⟩
    · obtain ⟨P, h1, h2, h3⟩ := h.mem _ _ e
      exact ⟨P, by simp [h1], h2.app, by rw [node_app h2, h3]⟩
/-! ### counts -/
theorem pow4 (n : Nat) : (0 : Int) < 4 ^ n := Int.pow_pos (by decide)
theorem pow4_add (a b : Nat) : (4 : Int) ^ (a + b) = 4 ^ a * 4 ^ b := Int.pow_add ..
theorem cnt_bd : ∀ (P : Pic) (k : Int), 0 ≤ P.cnt k ∧ P.cnt k ≤ 4 ^ P.depth
  | .p c, k => by simp only [Pic.cnt, Pic.depth]; split <;> simp
  | .q a b c d, k => by
    have ha := cnt_bd a k
    have hb := cnt_bd b k
    have hc := cnt_bd c k
    have hd := cnt_bd d k
    simp only [Pic.cnt, Pic.depth]
    have one : ∀ (m e : Nat) (x : Int), e ≤ m → 0 ≤ x ∧ x ≤ 4 ^ e → 0 ≤ x * 4 ^ (m - e) ∧ x * 4 ^ (m - e) ≤ 4 ^ m := by
      intro m e x h ⟨h0, h1⟩
      refine ⟨Int.mul_nonneg h0 (Int.le_of_lt (pow4 _)), ?_⟩
      have q := Int.mul_le_mul_of_nonneg_right h1 (Int.le_of_lt (pow4 (m - e)))
      rw [← pow4_add, Nat.add_sub_cancel' h] at q
      exact q
    have la := one (max (max a.depth b.depth) (max c.depth d.depth)) a.depth _ (by omega) ha
    have lb := one (max (max a.depth b.depth) (max c.depth d.depth)) b.depth _ (by omega) hb
    have lc := one (max (max a.depth b.depth) (max c.depth d.depth)) c.depth _ (by omega) hc
    have ld := one (max (max a.depth b.depth) (max c.depth d.depth)) d.depth _ (by omega) hd
    have e : (4 : Int) ^ (1 + max (max a.depth b.depth) (max c.depth d.depth)) = 4 * 4 ^ (max (max a.depth b.depth) (max c.depth d.depth)) := by rw [pow4_add]; rfl
    rw [e]
    constructor <;> omega
theorem ok_depth {P : Pic} (h : P.ok) : P.depth ≤ 12 := by
  cases P with
  | p c => simp [Pic.depth]
  | q a b c d => exact h.1
/-! ### turned pictures -/
abbrev P4 := Pic × Pic × Pic × Pic
def rot4 {α : Type} (x : α × α × α × α) : α × α × α × α := (x.2.2.1, x.1, x.2.2.2, x.2.1)
def rots4 {α : Type} : Nat → α × α × α × α → α × α × α × α
  | 0, x => x
  | k + 1, x => rot4 (rots4 k x)
def arr {α : Type} (t : Int) (x : α × α × α × α) : α × α × α × α := rots4 (t % 4).toNat (if 3 < t then (x.2.1, x.1, x.2.2.2, x.2.2.1) else x)
def Pic.turn (t : Int) : Pic → Pic
  | .p c => .p c
  | .q a b c d =>
    let x := arr t (a.turn t, b.turn t, c.turn t, d.turn t)
    .q x.1 x.2.1 x.2.2.1 x.2.2.2
/-- the number f is that of P -/
def IsF (ps : List Pic) (f : Int) (P : Pic) : Prop := 0 ≤ f ∧ ps[f.toNat]? = some P
theorem IsF.mem {ps : List Pic} {f : Int} {P : Pic} (h : IsF ps f P) : P ∈ ps := List.mem_of_getElem? h.2
theorem IsF.lt {ps : List Pic} {f : Int} {P : Pic} (h : IsF ps f P) : f < ps.length := by
  have := (List.getElem?_eq_some_iff.mp h.2).1
  have := h.1
  omega
theorem IsF.inj {ps : List Pic} {f : Int} {P Q : Pic} (h : IsF ps f P) (h' : IsF ps f Q) : P = Q := Option.some.inj (h.2.symm.trans h'.2)
theorem IsF.ix {ps : List Pic} {P : Pic} (h : P ∈ ps) : IsF ps (ix ps P : Nat) P := ⟨by omega, by simpa using ix_get h⟩
theorem IsF.eq {ps : List Pic} {f : Int} {P : Pic} (nd : ps.Nodup) (h : IsF ps f P) : f = (Mur.ix ps P : Nat) := by
  have := ix_of nd h.2
  have := h.1
  omega
theorem IsF.ex {ps : List Pic} {f : Int} (h0 : 0 ≤ f) (h1 : f < ps.length) : ∃ P, IsF ps f P := ⟨ps[f.toNat]'(by omega), h0, List.getElem?_eq_getElem (by omega)⟩
theorem IsF.app {ps qs : List Pic} {f : Int} {P : Pic} (h : IsF ps f P) : IsF (ps ++ qs) f P := by
  have := (List.getElem?_eq_some_iff.mp h.2).1
  exact ⟨h.1, by rw [List.getElem?_append_left this]; exact h.2⟩
/-- ps with P, at the end if it is new -/
def addP (ps : List Pic) (P : Pic) : List Pic := if P ∈ ps then ps else ps ++ [P]
theorem addP_mem (ps : List Pic) (P : Pic) : P ∈ addP ps P := by unfold addP; split <;> simp [*]
theorem addP_ext (ps : List Pic) (P : Pic) : ∃ qs, addP ps P = ps ++ qs := by
  unfold addP; split
  · exact ⟨[], by simp⟩
  · exact ⟨[P], rfl⟩
theorem addP_sub {ps : List Pic} {P Q : Pic} (h : Q ∈ addP ps P) : Q ∈ ps ∨ Q = P := by
  unfold addP at h; split at h
  · exact .inl h
  · simpa using h
theorem addP_len (ps : List Pic) (P : Pic) : (addP ps P).length ≤ ps.length + 1 := by unfold addP; split <;> simp
theorem IsF.add {ps : List Pic} {f : Int} {P Q : Pic} (h : IsF ps f P) : IsF (addP ps Q) f P := by
  obtain ⟨qs, e⟩ := addP_ext ps Q
  rw [e]; exact h.app
theorem nodup_sub {α : Type} [DecidableEq α] : ∀ {l m : List α}, l.Nodup → (∀ x ∈ l, x ∈ m) → l.length ≤ m.length
  | [], _, _, _ => by simp
  | x :: l, m, h, s => by
    have hx := s x (by simp)
    have h1 := nodup_sub (l := l) (m := m.erase x) (List.nodup_cons.mp h).2 fun y hy => by
      have hne : y ≠ x := fun z => (List.nodup_cons.mp h).1 (z ▸ hy)
      exact (List.mem_erase_of_ne hne).mpr (s y (by simp [hy]))
    have h2 := List.length_erase_of_mem hx
    have : 0 < m.length := List.length_pos_of_mem hx
    simp only [List.length_cons]
    omega
structure WhOk (ps : List Pic) (wh : List (List Key × V)) : Prop where
  val : ∀ (f t : Int) (v : V), valV wh [.inl f, .inl t] = some v → ∃ P, IsF ps f P ∧ P.turn t ∈ ps ∧ v = .int (ix ps (P.turn t) : Nat)
  nd : (wh.map (·.1)).Nodup
  keys : ∀ k ∈ wh.map (·.1), ∃ i t : Nat, i < ps.length ∧ t < 8 ∧ k = [.inl (i : Int), .inl (t : Int)]
theorem WhOk.app {ps qs : List Pic} {wh : List (List Key × V)} (h : WhOk ps wh) : WhOk (ps ++ qs) wh :=
  ⟨fun f t v e => by
    obtain ⟨P, h1, h2, h3⟩ := h.val f t v e
    exact ⟨P, h1.app, List.mem_append_left _ h2, by rw [ix_app h2]; exact h3⟩, h.nd, fun k hk => by
    obtain ⟨i, t, h1, h2, h3⟩ := h.keys k hk
    exact ⟨i, t, by simp; omega, h2, h3⟩⟩
theorem WhOk.add {ps : List Pic} {wh : List (List Key × V)} (Q : Pic) (h : WhOk ps wh) : WhOk (addP ps Q) wh := by
  obtain ⟨qs, e⟩ := addP_ext ps Q
  rw [e]; exact h.app
theorem WhOk.nil : WhOk [] [] := ⟨fun f t v e => by simp [valV] at e, by simp, by simp⟩
theorem WhOk.len {ps : List Pic} {wh : List (List Key × V)} (h : WhOk ps wh) : wh.length ≤ 8 * ps.length := by
  have e := nodup_sub (m := (List.range ps.length).flatMap fun i : Nat => (List.range 8).map fun t : Nat => ([.inl ((i : Nat) : Int), .inl ((t : Nat) : Int)] : List Key)) h.nd fun k hk => by
    obtain ⟨i, t, h1, h2, h3⟩ := h.keys k hk
    subst h3
    simp only [List.mem_flatMap, List.mem_range, List.mem_map]
    exact ⟨i, h1, t, h2, rfl⟩
  have e2 : ∀ l : List Nat, (l.flatMap fun i : Nat => (List.range 8).map fun t : Nat => ([.inl ((i : Nat) : Int), .inl ((t : Nat) : Int)] : List Key)).length = 8 * l.length := by
    intro l
    induction l with
    | nil => rfl
    | cons x l ih =>
      rw [List.flatMap_cons, List.length_append, ih, List.length_map, List.length_range, List.length_cons]
      omega
  have e3 := e2 (List.range ps.length)
  rw [List.length_range] at e3
  rw [List.length_map] at e
  omega
theorem KnOk.nil : KnOk [] [] := ⟨rfl, fun P _ => by simp [valV], fun k v e => by simp [valV] at e⟩
theorem PInv.nil : PInv [] := ⟨by simp, by simp, by simp⟩
end Mur
/-! The store of faces in the heap. -/
namespace Mur
open PySem hiding start
open PySem.Spec L2
open PyProof.Rows hiding St
abbrev fsFaces (v0 v1 v2 v3 v4 : V) : List (Str × V) := [("nodes", v0), ("depths", v1), ("sums", v2), ("known", v3), ("whirls", v4)]
section
variable {v0 v1 v2 v3 v4 x : V}
theorem lkFaces_nodes : (fsFaces v0 v1 v2 v3 v4).lookup ("nodes" : Str) = some v0 := by rfl
theorem ptFaces_nodes : putF ("nodes" : Str) x (fsFaces v0 v1 v2 v3 v4) = fsFaces x v1 v2 v3 v4 := by rfl
theorem lkFaces_depths : (fsFaces v0 v1 v2 v3 v4).lookup ("depths" : Str) = some v1 := by rfl
theorem ptFaces_depths : putF ("depths" : Str) x (fsFaces v0 v1 v2 v3 v4) = fsFaces v0 x v2 v3 v4 := by rfl
theorem lkFaces_sums : (fsFaces v0 v1 v2 v3 v4).lookup ("sums" : Str) = some v2 := by rfl
theorem ptFaces_sums : putF ("sums" : Str) x (fsFaces v0 v1 v2 v3 v4) = fsFaces v0 v1 x v3 v4 := by rfl
theorem lkFaces_known : (fsFaces v0 v1 v2 v3 v4).lookup ("known" : Str) = some v3 := by rfl
theorem ptFaces_known : putF ("known" : Str) x (fsFaces v0 v1 v2 v3 v4) = fsFaces v0 v1 v2 x v4 := by rfl
theorem lkFaces_whirls : (fsFaces v0 v1 v2 v3 v4).lookup ("whirls" : Str) = some v4 := by rfl
theorem ptFaces_whirls : putF ("whirls" : Str) x (fsFaces v0 v1 v2 v3 v4) = fsFaces v0 v1 v2 v3 x := by rfl
theorem noFaces_stored : (fsFaces v0 v1 v2 v3 v4).lookup ("stored" : Str) = none := by rfl
theorem noFaces_need : (fsFaces v0 v1 v2 v3 v4).lookup ("need" : Str) = none := by rfl
theorem noFaces_plain : (fsFaces v0 v1 v2 v3 v4).lookup ("plain" : Str) = none := by rfl
theorem noFaces_four : (fsFaces v0 v1 v2 v3 v4).lookup ("four" : Str) = none := by rfl
theorem noFaces_depth : (fsFaces v0 v1 v2 v3 v4).lookup ("depth" : Str) = none := by rfl
theorem noFaces_quarters : (fsFaces v0 v1 v2 v3 v4).lookup ("quarters" : Str) = none := by rfl
theorem noFaces_colour : (fsFaces v0 v1 v2 v3 v4).lookup ("colour" : Str) = none := by rfl
theorem noFaces_need_depth : (fsFaces v0 v1 v2 v3 v4).lookup ("need_depth" : Str) = none := by rfl
theorem noFaces_cell : (fsFaces v0 v1 v2 v3 v4).lookup ("cell" : Str) = none := by rfl
theorem noFaces_counts : (fsFaces v0 v1 v2 v3 v4).lookup ("counts" : Str) = none := by rfl
theorem noFaces_turned : (fsFaces v0 v1 v2 v3 v4).lookup ("turned" : Str) = none := by rfl
theorem noFaces_whirled : (fsFaces v0 v1 v2 v3 v4).lookup ("whirled" : Str) = none := by rfl
theorem noFaces_kind : (fsFaces v0 v1 v2 v3 v4).lookup ("kind" : Str) = none := by rfl
theorem noFaces_turning : (fsFaces v0 v1 v2 v3 v4).lookup ("turning" : Str) = none := by rfl
theorem noFaces_apart : (fsFaces v0 v1 v2 v3 v4).lookup ("apart" : Str) = none := by rfl
end
/-- a field of a new object is stored: the heap behind it -/
theorem init_step {H : Hp} {p C dx n : Addr} {fs fs' : List (Str × V)} {o : HO} (hp : H p = some (.ins C dx fs)) (hn : H n = none) :
    (upd (upd H n o) p (.ins C dx fs')) p = some (.ins C dx fs') ∧ (upd (upd H n o) p (.ins C dx fs')) n = some o ∧ (∀ b u, H b = some u → b ≠ p → (upd (upd H n o) p (.ins C dx fs')) b = some u) ∧ n ≠ p := by
  have np : n ≠ p := (ne_of_none hp hn).symm
  exact ⟨upd_same, by rw [upd_ne np, upd_same], fun b u e hb => by rw [upd_ne hb, upd_ne (ne_of_none e hn)]; exact e, np⟩
/-- the store's own lists and dicts -/
structure FA where
  n : Addr
  d : Addr
  s : Addr
  k : Addr
  w : Addr
def FA.foot (A : FA) (b : Addr) : Prop := b = A.n ∨ b = A.d ∨ b = A.s ∨ b = A.k ∨ b = A.w
theorem upd_ex {H : Hp} {a b : Addr} {o : HO} (h : ∃ u, H b = some u) : ∃ u, upd H a o b = some u := by
  by_cases e : b = a
  · subst e; exact ⟨o, upd_same⟩
  · rw [upd_ne e]; exact h
/-- what is not at F stays -/
def Keep (F : Addr → Prop) (H H' : Hp) : Prop := ∀ b o, H b = some o → ¬ F b → H' b = some o
theorem Keep.refl (F : Addr → Prop) (H : Hp) : Keep F H H := fun _ _ h _ => h
theorem Keep.trans {F : Addr → Prop} {H H1 H2 : Hp} (a : Keep F H H1) (b : Keep F H1 H2) : Keep F H H2 := fun c o h n => b c o (a c o h n) n
theorem _root_.L2.Same.keep {F : Addr → Prop} {H H' : Hp} (s : Same H H') : Keep F H H' := fun b o h _ => s b o h
theorem Keep.mono {F G : Addr → Prop} {H H' : Hp} (h : Keep F H H') (i : ∀ b, F b → G b) : Keep G H H' := fun b o e n => h b o e fun z => n (i b z)
theorem Keep.set {F : Addr → Prop} {H H' : Hp} {a : Addr} {o : HO} (h : Keep F H H') (f : F a) : Keep F H (upd H' a o) := fun b u e n => by
  rw [upd_ne (fun z => n (by rw [z]; exact f))]; exact h b u e n
/-- a store stands at p; D: all addresses that it leans on -/
structure FacesAt (C : Addr) (H : Hp) (p : Addr) (A : FA) (D : Addr → Prop) (ps : List Pic) : Prop where
  ob : ∃ dx, H p = some (.ins C dx (fsFaces (.ref A.n) (.ref A.d) (.ref A.s) (.ref A.k) (.ref A.w)))
  nodes : ∃ ns : List Addr, H A.n = some (.lst (ns.map V.ref)) ∧ ns.length = ps.length ∧ ∀ (i : Nat) (a : Addr) (P : Pic), ns[i]? = some a → ps[i]? = some P → D a ∧ H a = some (.tup ((nodeOf ps P).map V.int))
  depths : H A.d = some (.lst (ps.map fun P => V.int (P.depth : Nat)))
  sums : ∃ ss : List Addr, H A.s = some (.lst (ss.map V.ref)) ∧ ss.length = ps.length ∧ ∀ (i : Nat) (a : Addr) (P : Pic), ss[i]? = some a → ps[i]? = some P → D a ∧ ¬ A.foot a ∧ H a = some (.lst (P.sums.map V.int))
  known : ∃ kvs, H A.k = some (.dT kvs) ∧ KnOk ps kvs
  whirl : ∃ wh, H A.w = some (.dT wh) ∧ WhOk ps wh
  inv : PInv ps
  dp : D p
  df : ∀ b, A.foot b → D b
  ex : ∀ b, D b → ∃ o, H b = some o
  ap : A.n ≠ A.d ∧ A.n ≠ A.s ∧ A.d ≠ A.s ∧ A.k ≠ A.w
section
variable {C : Addr} {H H' : Hp} {p : Addr} {A : FA} {D : Addr → Prop} {ps : List Pic}
theorem FacesAt.keep (h : FacesAt C H p A D ps) (k : ∀ b o, D b → H b = some o → H' b = some o) : FacesAt C H' p A D ps := by
  obtain ⟨⟨dx, ob⟩, ⟨ns, n1, n2, n3⟩, dd, ⟨ss, s1, s2, s3⟩, ⟨kvs, k1, k2⟩, ⟨wh, w1, w2⟩, inv, dp, df, ex, ap⟩ := h
  exact ⟨⟨dx, k _ _ dp ob⟩, ⟨ns, k _ _ (df _ (.inl rfl)) n1, n2, fun i a P e1 e2 => ⟨(n3 i a P e1 e2).1, k _ _ (n3 i a P e1 e2).1 (n3 i a P e1 e2).2⟩⟩, k _ _ (df _ (.inr (.inl rfl))) dd,
    ⟨ss, k _ _ (df _ (.inr (.inr (.inl rfl)))) s1, s2, fun i a P e1 e2 => ⟨(s3 i a P e1 e2).1, (s3 i a P e1 e2).2.1, k _ _ (s3 i a P e1 e2).1 (s3 i a P e1 e2).2.2⟩⟩,
    ⟨kvs, k _ _ (df _ (.inr (.inr (.inr (.inl rfl))))) k1, k2⟩, ⟨wh, k _ _ (df _ (.inr (.inr (.inr (.inr rfl))))) w1, w2⟩, inv, dp, df, fun b hb => let ⟨o, e⟩ := ex b hb; ⟨o, k b o hb e⟩, ap⟩
theorem FacesAt.same (h : FacesAt C H p A D ps) (s : Same H H') : FacesAt C H' p A D ps := h.keep fun b o _ e => s b o e
theorem FacesAt.len (h : FacesAt C H p A D ps) : ∃ ns : List Addr, H A.n = some (.lst (ns.map V.ref)) ∧ ns.length = ps.length := let ⟨ns, a, b, _⟩ := h.nodes; ⟨ns, a, b⟩
theorem foot_tup (h : FacesAt C H p A D ps) {t : Addr} {xs : List V} (ht : H t = some (.tup xs)) : ¬ A.foot t := by
  obtain ⟨ns, hn, _⟩ := h.nodes
  obtain ⟨ss, hs, _⟩ := h.sums
  obtain ⟨kvs, hk, _⟩ := h.known
  obtain ⟨wh, hw, _⟩ := h.whirl
  rintro (rfl | rfl | rfl | rfl | rfl)
  · rw [ht] at hn; cases hn
  · have := h.depths; rw [ht] at this; cases this
  · rw [ht] at hs; cases hs
  · rw [ht] at hk; cases hk
  · rw [ht] at hw; cases hw
theorem foot_p (h : FacesAt C H p A D ps) : ¬ A.foot p := by
  obtain ⟨dx, ob⟩ := h.ob
  obtain ⟨ns, hn, _⟩ := h.nodes
  obtain ⟨ss, hs, _⟩ := h.sums
  obtain ⟨kvs, hk, _⟩ := h.known
  obtain ⟨wh, hw, _⟩ := h.whirl
  rintro (e | e | e | e | e)
  · rw [e, hn] at ob; cases ob
  · rw [e, h.depths] at ob; cases ob
  · rw [e, hs] at ob; cases ob
  · rw [e, hk] at ob; cases ob
  · rw [e, hw] at ob; cases ob
/-- a new picture has been laid down -/
theorem FacesAt.stored (h : FacesAt C H p A D ps) {P : Pic} {t sm : Addr} {ns ss : List Addr} {kvs : List (List Key × V)} (hn : H A.n = some (.lst (ns.map V.ref))) (hs : H A.s = some (.lst (ss.map V.ref))) (hk : H A.k = some (.dT kvs))
    (ht : H t = some (.tup ((nodeOf ps P).map V.int))) (hsm : H sm = some (.lst (P.sums.map V.int))) (nf : ¬ A.foot sm) (pin : PartsIn ps P) (ok : P.ok) (hP : P ∉ ps) :
    Keep A.foot H (upd (upd (upd (upd H A.k (.dT (putK kvs (key (nodeOf ps P)) (.int (ps.length : Nat))))) A.n (.lst (ns.map V.ref ++ [.ref t]))) A.d (.lst (ps.map (fun P => V.int (P.depth : Nat)) ++ [.int (P.depth : Nat)]))) A.s (.lst (ss.map V.ref ++ [.ref sm]))) ∧
    FacesAt C (upd (upd (upd (upd H A.k (.dT (putK kvs (key (nodeOf ps P)) (.int (ps.length : Nat))))) A.n (.lst (ns.map V.ref ++ [.ref t]))) A.d (.lst (ps.map (fun P => V.int (P.depth : Nat)) ++ [.int (P.depth : Nat)]))) A.s (.lst (ss.map V.ref ++ [.ref sm]))) p A (fun b => D b ∨ b = t ∨ b = sm) (ps ++ [P]) := by
  have tf := foot_tup h ht
  have pf := foot_p h
  obtain ⟨⟨dx, ob⟩, ⟨ns', n1, n2, n3⟩, dd, ⟨ss', s1, s2, s3⟩, ⟨kvs', k1, k2⟩, ⟨wh, w1, w2⟩, inv, dp, df, ex, ap1, ap2, ap3, ap4⟩ := h
  have ens : ns'.map V.ref = ns.map V.ref := by rw [hn] at n1; injection n1 with n1; injection n1 with n1; exact n1.symm
  have ess : ss'.map V.ref = ss.map V.ref := by rw [hs] at s1; injection s1 with s1; injection s1 with s1; exact s1.symm
  have ekv : kvs' = kvs := by rw [hk] at k1; injection k1 with k1; injection k1 with k1; exact k1.symm
  subst ekv
  have K : Keep A.foot H (upd (upd (upd (upd H A.k (.dT (putK kvs' (key (nodeOf ps P)) (.int (ps.length : Nat))))) A.n (.lst (ns.map V.ref ++ [.ref t]))) A.d (.lst (ps.map (fun P => V.int (P.depth : Nat)) ++ [.int (P.depth : Nat)]))) A.s (.lst (ss.map V.ref ++ [.ref sm]))) :=
    (((Keep.refl A.foot H).set (.inr (.inr (.inr (.inl rfl))))).set (.inl rfl)).set (.inr (.inl rfl)) |>.set (.inr (.inr (.inl rfl)))
  have nk : A.n ≠ A.k := ne_of hn hk (by intro z; cases z)
  have dk : A.d ≠ A.k := ne_of dd hk (by intro z; cases z)
  have sk : A.s ≠ A.k := ne_of hs hk (by intro z; cases z)
  have nw : A.n ≠ A.w := ne_of hn w1 (by intro z; cases z)
  have dw : A.d ≠ A.w := ne_of dd w1 (by intro z; cases z)
  have sw : A.s ≠ A.w := ne_of hs w1 (by intro z; cases z)
  have e0 := k2.val P pin
  rw [if_neg hP] at e0
  refine ⟨K, ⟨dx, K _ _ ob pf⟩, ⟨ns ++ [t], by rw [upd_ne ap2, upd_ne ap1, upd_same, List.map_append]; rfl, ?_, ?_⟩, ?_, ⟨ss ++ [sm], by rw [upd_same, List.map_append]; rfl, ?_, ?_⟩, ⟨putK kvs' (key (nodeOf ps P)) (.int (ps.length : Nat)), ?_, ?_⟩, ⟨wh, ?_, w2.app⟩, inv.add hP pin ok, .inl dp, fun b hb => .inl (df b hb), ?_, ap1, ap2, ap3, ap4⟩
  · have : ns.length = ns'.length := by have := congrArg List.length ens; simpa using this.symm
    simp [this, n2]
  · intro i a Q e1 e2
    have ln : ns.length = ps.length := by have := congrArg List.length ens; simp at this; omega
    by_cases hi : i < ns.length
    · rw [List.getElem?_append_left hi] at e1
      rw [List.getElem?_append_left (by omega)] at e2
      have e1' : ns'[i]? = some a := by
        have q : (ns'.map V.ref)[i]? = (ns.map V.ref)[i]? := by rw [ens]
        rw [List.getElem?_map, List.getElem?_map, e1] at q
        cases r : ns'[i]? with
        | none => rw [r] at q; cases q
        | some b => rw [r] at q; injection q with q; injection q with q; rw [q]
      obtain ⟨da, ha⟩ := n3 i a Q e1' e2
      have hQ : Q ∈ ps := List.mem_of_getElem? e2
      exact ⟨.inl da, by rw [node_app (inv.cl Q hQ)]; exact K _ _ ha (fun z => by
        rcases z with rfl | rfl | rfl | rfl | rfl
        · rw [hn] at ha; cases ha
        · rw [dd] at ha; cases ha
        · rw [hs] at ha; cases ha
        · rw [hk] at ha; cases ha
        · rw [w1] at ha; cases ha)⟩
    · have hi2 : i = ns.length := by
        have := (List.getElem?_eq_some_iff.mp e1).1
        simp at this; omega
      subst hi2
      rw [List.getElem?_append_right (Nat.le_refl _)] at e1
      rw [ln, List.getElem?_append_right (Nat.le_refl _)] at e2
      simp at e1 e2
      subst e1 e2
      exact ⟨.inr (.inl rfl), by rw [node_app pin]; exact K _ _ ht tf⟩
  · rw [upd_ne ap3, upd_same, List.map_append]
    rfl
  · have : ss.length = ss'.length := by have := congrArg List.length ess; simpa using this.symm
    simp [this, s2]
  · intro i a Q e1 e2
    have ln : ss.length = ps.length := by have := congrArg List.length ess; simp at this; omega
    by_cases hi : i < ss.length
    · rw [List.getElem?_append_left hi] at e1
      rw [List.getElem?_append_left (by omega)] at e2
      have e1' : ss'[i]? = some a := by
        have q : (ss'.map V.ref)[i]? = (ss.map V.ref)[i]? := by rw [ess]
        rw [List.getElem?_map, List.getElem?_map, e1] at q
        cases r : ss'[i]? with
        | none => rw [r] at q; cases q
        | some b => rw [r] at q; injection q with q; injection q with q; rw [q]
      obtain ⟨da, fa, ha⟩ := s3 i a Q e1' e2
      exact ⟨.inl da, fa, K _ _ ha fa⟩
    · have hi2 : i = ss.length := by
        have := (List.getElem?_eq_some_iff.mp e1).1
        simp at this; omega
      subst hi2
      rw [List.getElem?_append_right (Nat.le_refl _)] at e1
      rw [ln, List.getElem?_append_right (Nat.le_refl _)] at e2
      simp at e1 e2
      subst e1 e2
      exact ⟨.inr (.inr rfl), nf, K _ _ hsm nf⟩
  · rw [upd_ne sk.symm, upd_ne dk.symm, upd_ne nk.symm, upd_same]
  · rw [putK_new _ e0]
    exact k2.add inv hP pin
  · rw [upd_ne sw.symm, upd_ne dw.symm, upd_ne nw.symm, upd_ne ap4.symm]
    exact w1
  · rintro b (hb | rfl | rfl)
    · obtain ⟨o, e⟩ := ex b hb
      exact upd_ex (upd_ex (upd_ex (upd_ex ⟨o, e⟩)))
    · exact ⟨_, K _ _ ht tf⟩
    · exact ⟨_, K _ _ hsm nf⟩
theorem FacesAt.nd (h : FacesAt C H p A D ps) {b : Addr} (e : H b = none) : ¬ D b := fun z => by
  obtain ⟨o, q⟩ := h.ex b z
  rw [e] at q; cases q
theorem FacesAt.ofFoot (h : FacesAt C H p A D ps) {b : Addr} (e : ¬ D b) : ¬ A.foot b := fun z => e (h.df b z)
theorem FacesAt.depthAt {f : Int} {P : Pic} (h : IsF ps f P) : atI (ps.map fun P => V.int (P.depth : Nat)) f = some (.int (P.depth : Nat)) := by
  refine atI_of (n := f.toNat) ?_ (by have := h.1; omega)
  rw [List.getElem?_map, h.2]
  rfl
/-- what a method of the store leaves -/
def After (C : Addr) (H : Hp) (p : Addr) (A : FA) (D : Addr → Prop) (qs : List Pic) (R : Hp → Prop) : Prop := ∀ H' D', Keep A.foot H H' → FacesAt C H' p A D' qs → (∀ b, D b → D' b) → (∀ b, D' b → D b ∨ H b = none) → R H'
end
end Mur
/-! Turned pictures and their cells, plain mathematics. -/
namespace Mur
open PySem hiding start
open PySem.Spec L2
open PyProof.Rows hiding St
theorem eight {t : Int} (h0 : 0 ≤ t) (h8 : t < 8) : t = 0 ∨ t = 1 ∨ t = 2 ∨ t = 3 ∨ t = 4 ∨ t = 5 ∨ t = 6 ∨ t = 7 := by omega
def afterI (a b : Int) : Int := (if 3 < b then b % 4 - a % 4 else a % 4 + b % 4) % 4 + 4 * ((a / 4 + b / 4) % 2)
def map4 {α β : Type} (f : α → β) (x : α × α × α × α) : β × β × β × β := (f x.1, f x.2.1, f x.2.2.1, f x.2.2.2)
theorem after_rg {a b : Int} (h0 : 0 ≤ a) (h8 : a < 8) (g0 : 0 ≤ b) (g8 : b < 8) : 0 ≤ afterI a b ∧ afterI a b < 8 := by
  rcases eight h0 h8 with rfl | rfl | rfl | rfl | rfl | rfl | rfl | rfl <;> rcases eight g0 g8 with rfl | rfl | rfl | rfl | rfl | rfl | rfl | rfl <;> decide
theorem arr_map {α β : Type} {t : Int} (h0 : 0 ≤ t) (h8 : t < 8) (f : α → β) (x : α × α × α × α) : map4 f (arr t x) = arr t (map4 f x) := by
  rcases eight h0 h8 with rfl | rfl | rfl | rfl | rfl | rfl | rfl | rfl <;> rfl
theorem arr_arr {a b : Int} (h0 : 0 ≤ a) (h8 : a < 8) (g0 : 0 ≤ b) (g8 : b < 8) (x : P4) : arr b (arr a x) = arr (afterI a b) x := by
  rcases eight h0 h8 with rfl | rfl | rfl | rfl | rfl | rfl | rfl | rfl <;> rcases eight g0 g8 with rfl | rfl | rfl | rfl | rfl | rfl | rfl | rfl <;> rfl
def q4 (x : P4) : Pic := .q x.1 x.2.1 x.2.2.1 x.2.2.2
theorem turn_q (t : Int) (a b c d : Pic) : (Pic.q a b c d).turn t = q4 (arr t (a.turn t, b.turn t, c.turn t, d.turn t)) := rfl
theorem turn_q4 (t : Int) (x : P4) : (q4 x).turn t = q4 (arr t (map4 (Pic.turn t) x)) := rfl
theorem turn_turn {a b : Int} (h0 : 0 ≤ a) (h8 : a < 8) (g0 : 0 ≤ b) (g8 : b < 8) : ∀ P : Pic, (P.turn a).turn b = P.turn (afterI a b)
  | .p c => rfl
  | .q x y z w => by
    rw [turn_q, turn_q4, arr_map h0 h8, arr_arr h0 h8 g0 g8, turn_q]
    simp only [map4]
    rw [turn_turn h0 h8 g0 g8 x, turn_turn h0 h8 g0 g8 y, turn_turn h0 h8 g0 g8 z, turn_turn h0 h8 g0 g8 w]
theorem arr_zero (x : P4) : arr 0 x = x := rfl
theorem turn_zero : ∀ P : Pic, P.turn 0 = P
  | .p c => rfl
  | .q x y z w => by rw [turn_q, arr_zero, turn_zero x, turn_zero y, turn_zero z, turn_zero w]; rfl
theorem turn_back {a : Int} (h0 : 0 ≤ a) (h8 : a < 8) : ∃ b, 0 ≤ b ∧ b < 8 ∧ ∀ P : Pic, (P.turn a).turn b = P := by
  have : ∃ b, 0 ≤ b ∧ b < 8 ∧ afterI a b = 0 := by
    rcases eight h0 h8 with rfl | rfl | rfl | rfl | rfl | rfl | rfl | rfl
    · exact ⟨0, by decide⟩
    · exact ⟨3, by decide⟩
    · exact ⟨2, by decide⟩
    · exact ⟨1, by decide⟩
    · exact ⟨4, by decide⟩
    · exact ⟨5, by decide⟩
    · exact ⟨6, by decide⟩
    · exact ⟨7, by decide⟩
  obtain ⟨b, b0, b8, e⟩ := this
  exact ⟨b, b0, b8, fun P => by rw [turn_turn h0 h8 b0 b8, e, turn_zero]⟩
theorem turn_inj {a : Int} (h0 : 0 ≤ a) (h8 : a < 8) {P Q : Pic} (e : P.turn a = Q.turn a) : P = Q := by
  obtain ⟨b, _, _, h⟩ := turn_back h0 h8
  rw [← h P, ← h Q, e]
theorem q4_depth {t : Int} (h0 : 0 ≤ t) (h8 : t < 8) (x : P4) : (q4 (arr t x)).depth = (q4 x).depth := by
  rcases eight h0 h8 with rfl | rfl | rfl | rfl | rfl | rfl | rfl | rfl <;> simp only [q4, arr, rots4, rot4, Pic.depth] <;> simp [rots4, rot4] <;> omega
theorem turn_depth {t : Int} (h0 : 0 ≤ t) (h8 : t < 8) : ∀ P : Pic, (P.turn t).depth = P.depth
  | .p c => rfl
  | .q x y z w => by
    rw [turn_q, q4_depth h0 h8]
    simp only [q4, Pic.depth]
    rw [turn_depth h0 h8 x, turn_depth h0 h8 y, turn_depth h0 h8 z, turn_depth h0 h8 w]
theorem arr_all {t : Int} (h0 : 0 ≤ t) (h8 : t < 8) (x : P4) (h : (arr t x).1 = (arr t x).2.1 ∧ (arr t x).2.1 = (arr t x).2.2.1 ∧ (arr t x).2.2.1 = (arr t x).2.2.2) : x.1 = x.2.1 ∧ x.2.1 = x.2.2.1 ∧ x.2.2.1 = x.2.2.2 := by
  obtain ⟨a, b, c, d⟩ := x
  rcases eight h0 h8 with rfl | rfl | rfl | rfl | rfl | rfl | rfl | rfl <;> simp [arr, rots4, rot4] at h ⊢ <;> obtain ⟨e1, e2, e3⟩ := h <;> subst_vars <;> simp
theorem turn_ok {t : Int} (h0 : 0 ≤ t) (h8 : t < 8) {P : Pic} (h : P.ok) : (P.turn t).ok := by
  cases P with
  | p c => exact h
  | q x y z w =>
    obtain ⟨h1, h2⟩ := h
    have hd := turn_depth h0 h8 (.q x y z w)
    rw [turn_q] at hd ⊢
    refine ⟨by show (q4 _).depth ≤ 12; rw [hd]; exact h1, fun ⟨e1, e2, e3, e4⟩ => h2 ?_⟩
    obtain ⟨f1, f2, f3⟩ := arr_all h0 h8 (x.turn t, y.turn t, z.turn t, w.turn t) ⟨e1, e2, e3⟩
    have g1 := turn_inj h0 h8 f1
    have g2 := turn_inj h0 h8 f2
    have g3 := turn_inj h0 h8 f3
    subst g1 g2 g3
    refine ⟨rfl, rfl, rfl, ?_⟩
    have e5 : (arr t (x.turn t, x.turn t, x.turn t, x.turn t)).1 = x.turn t := by
      rcases eight h0 h8 with rfl | rfl | rfl | rfl | rfl | rfl | rfl | rfl <;> rfl
    rw [e5, turn_depth h0 h8] at e4
    exact e4
theorem q4_cnt {t : Int} (h0 : 0 ≤ t) (h8 : t < 8) (x : P4) (k : Int) : (q4 (arr t x)).cnt k = (q4 x).cnt k := by
  have hd := q4_depth h0 h8 x
  obtain ⟨a, b, c, d⟩ := x
  simp only [q4, Pic.depth, Nat.add_left_cancel_iff] at hd
  simp only [q4, Pic.cnt]
  rw [hd]
  rcases eight h0 h8 with rfl | rfl | rfl | rfl | rfl | rfl | rfl | rfl <;> simp only [arr, rots4, rot4] <;> simp [rots4, rot4] <;> omega
theorem turn_cnt {t : Int} (h0 : 0 ≤ t) (h8 : t < 8) : ∀ (P : Pic) (k : Int), (P.turn t).cnt k = P.cnt k
  | .p c, k => rfl
  | .q x y z w, k => by
    rw [turn_q, q4_cnt h0 h8]
    simp only [q4, Pic.cnt]
    rw [turn_depth h0 h8 x, turn_depth h0 h8 y, turn_depth h0 h8 z, turn_depth h0 h8 w, turn_cnt h0 h8 x, turn_cnt h0 h8 y, turn_cnt h0 h8 z, turn_cnt h0 h8 w]
theorem pow4_le {s n : Nat} (h : s ≤ n) : (4 : Int) ^ s ≤ 4 ^ n := by
  have e1 : (4 : Int) ^ n = 4 ^ s * 4 ^ (n - s) := by rw [← pow4_add]; congr 1; omega
  have h1 : (1 : Int) ≤ 4 ^ (n - s) := by have := pow4 (n - s); omega
  have h2 := Int.mul_le_mul_of_nonneg_left h1 (Int.le_of_lt (pow4 s))
  rw [e1]; omega
theorem eqv_ints : ∀ ns : List Int, PyData.eqvAll (ns.map PyData.int) (ns.map PyData.int) = true
  | [] => rfl
  | n :: ns => by simp [PyData.eqvAll, PyData.eqv, eqv_ints ns]
def term4 (m : Nat) (P : Pic) (k : Nat) : Int := P.cnt (k : Int) * 4 ^ (m - P.depth)
def part4 (m : Nat) (l : List Pic) (k : Nat) : Int := (l.map fun P => term4 m P k).sum
theorem part4_add (m : Nat) (l : List Pic) (P : Pic) (k : Nat) : part4 m (l ++ [P]) k = part4 m l k + term4 m P k := by simp [part4]
theorem mk_ok {a b c d : Pic} (h : (Pic.q a b c d).ok) : Pic.mk a b c d = .q a b c d := if_neg h.2
/-! ### cells -/
def pick4 (i : Int) (a b c d : Pic) : Pic := if i = 0 then a else if i = 1 then b else if i = 2 then c else d
/-- the cell of a picture looked at in 2 ^ s cells each way -/
def Pic.cell : Pic → Nat → Int → Int → Int
  | .p c, _, _, _ => c
  | .q a b c d, s, x, y =>
    let h := (2 : Int) ^ (s - 1)
    let i := 2 * (y / h) + x / h
    if i = 0 then a.cell (s - 1) (x % h) (y % h) else if i = 1 then b.cell (s - 1) (x % h) (y % h) else if i = 2 then c.cell (s - 1) (x % h) (y % h) else d.cell (s - 1) (x % h) (y % h)
theorem pow2 (n : Nat) : (0 : Int) < 2 ^ n := Int.pow_pos (by decide)
theorem half_of {h x : Int} (hh : 0 < h) (h0 : 0 ≤ x) (h1 : x < 2 * h) : (x / h = 0 ∧ x % h = x ∧ x < h) ∨ (x / h = 1 ∧ x % h = x - h ∧ h ≤ x) := by
  by_cases c : x < h
  · exact .inl ⟨Int.ediv_eq_zero_of_lt h0 c, Int.emod_eq_of_lt h0 c, c⟩
  · refine .inr ?_
    have e : x = (x - h) + h * 1 := by omega
    have d1 : x / h = 1 := by rw [e, Int.add_mul_ediv_left _ _ (by omega), Int.ediv_eq_zero_of_lt (by omega) (by omega)]; rfl
    have d2 : x % h = x - h := by rw [e, Int.add_mul_emod_self_left, Int.emod_eq_of_lt (by omega) (by omega)]; omega
    exact ⟨d1, d2, by omega⟩
theorem cell_rot : ∀ (P : Pic) (s : Nat) (x y : Int), P.depth ≤ s → 0 ≤ x → x < 2 ^ s → 0 ≤ y → y < 2 ^ s → (P.turn 1).cell s x y = P.cell s y (2 ^ s - 1 - x)
  | .p c, _, _, _, _, _, _, _, _ => rfl
  | .q a b c d, 0, x, y, hd, _, _, _, _ => by simp [Pic.depth] at hd
  | .q a b c d, s + 1, x, y, hd, hx0, hx1, hy0, hy1 => by
    have e : (2 : Int) ^ (s + 1) = 2 * 2 ^ s := by rw [Int.pow_succ]; omega
    rw [e] at hx1 hy1 ⊢
    simp only [Pic.depth] at hd
    have hp := pow2 s
    show (Pic.q (c.turn 1) (a.turn 1) (d.turn 1) (b.turn 1)).cell (s + 1) x y = _
    simp only [Pic.cell, Nat.add_sub_cancel]
    rcases half_of hp hx0 hx1 with ⟨x1, x2, x3⟩ | ⟨x1, x2, x3⟩ <;> rcases half_of hp hy0 hy1 with ⟨y1, y2, y3⟩ | ⟨y1, y2, y3⟩ <;>
      rcases half_of (x := 2 * 2 ^ s - 1 - x) hp (by omega) (by omega) with ⟨z1, z2, z3⟩ | ⟨z1, z2, z3⟩ <;> try omega
    · rw [x1, x2, y1, y2, z1, z2]
      simp
      rw [cell_rot c s x y (by omega) hx0 (by omega) hy0 (by omega)]
      congr 1; omega
    · rw [x1, x2, y1, y2, z1, z2]
      simp
      rw [cell_rot d s x _ (by omega) hx0 (by omega) (by omega) (by omega)]
      congr 1; omega
    · rw [x1, x2, y1, y2, z1, z2]
      simp
      rw [cell_rot a s _ y (by omega) (by omega) (by omega) hy0 (by omega)]
      congr 1; omega
    · rw [x1, x2, y1, y2, z1, z2]
      simp
      rw [cell_rot b s _ _ (by omega) (by omega) (by omega) (by omega) (by omega)]
      congr 1; omega
theorem cell_mir : ∀ (P : Pic) (s : Nat) (x y : Int), P.depth ≤ s → 0 ≤ x → x < 2 ^ s → 0 ≤ y → y < 2 ^ s → (P.turn 4).cell s x y = P.cell s (2 ^ s - 1 - x) y
  | .p c, _, _, _, _, _, _, _, _ => rfl
  | .q a b c d, 0, x, y, hd, _, _, _, _ => by simp [Pic.depth] at hd
  | .q a b c d, s + 1, x, y, hd, hx0, hx1, hy0, hy1 => by
    have e : (2 : Int) ^ (s + 1) = 2 * 2 ^ s := by rw [Int.pow_succ]; omega
    rw [e] at hx1 hy1 ⊢
    simp only [Pic.depth] at hd
    have hp := pow2 s
    show (Pic.q (b.turn 4) (a.turn 4) (d.turn 4) (c.turn 4)).cell (s + 1) x y = _
    simp only [Pic.cell, Nat.add_sub_cancel]
    rcases half_of hp hx0 hx1 with ⟨x1, x2, x3⟩ | ⟨x1, x2, x3⟩ <;> rcases half_of hp hy0 hy1 with ⟨y1, y2, y3⟩ | ⟨y1, y2, y3⟩ <;>
      rcases half_of (x := 2 * 2 ^ s - 1 - x) hp (by omega) (by omega) with ⟨z1, z2, z3⟩ | ⟨z1, z2, z3⟩ <;> try omega
    · rw [x1, x2, y1, y2, z1, z2]
      simp
      rw [cell_mir b s x y (by omega) hx0 (by omega) hy0 (by omega)]
      congr 1; omega
    · rw [x1, x2, y1, y2, z1, z2]
      simp
      rw [cell_mir d s x _ (by omega) hx0 (by omega) (by omega) (by omega)]
      congr 1; omega
    · rw [x1, x2, y1, y2, z1, z2]
      simp
      rw [cell_mir a s _ y (by omega) (by omega) (by omega) hy0 (by omega)]
      congr 1; omega
    · rw [x1, x2, y1, y2, z1, z2]
      simp
      rw [cell_mir c s _ _ (by omega) (by omega) (by omega) (by omega) (by omega)]
      congr 1; omega
/-- where the cell that stands at (x, y) behind the turning came from -/
def fromI : Nat → Int → Int × Int → Int × Int
  | 0, n, p => p
  | k + 1, n, p => let r := fromI k n p; (r.2, n - 1 - r.1)
def fromT (t n x y : Int) : Int × Int := let r := fromI (t % 4).toNat n (x, y); if 3 < t then (n - 1 - r.1, r.2) else r
theorem fromI_rg (n : Int) : ∀ (k : Nat) (p : Int × Int), 0 ≤ p.1 → p.1 < n → 0 ≤ p.2 → p.2 < n → (0 ≤ (fromI k n p).1 ∧ (fromI k n p).1 < n) ∧ 0 ≤ (fromI k n p).2 ∧ (fromI k n p).2 < n
  | 0, p, a, b, c, d => ⟨⟨a, b⟩, c, d⟩
  | k + 1, p, a, b, c, d => by
    obtain ⟨⟨h1, h2⟩, h3, h4⟩ := fromI_rg n k p a b c d
    simp only [fromI]
    refine ⟨⟨h3, h4⟩, ?_, ?_⟩ <;> omega
theorem fromT_rg {t n x y : Int} (a : 0 ≤ x) (b : x < n) (c : 0 ≤ y) (d : y < n) : (0 ≤ (fromT t n x y).1 ∧ (fromT t n x y).1 < n) ∧ 0 ≤ (fromT t n x y).2 ∧ (fromT t n x y).2 < n := by
  obtain ⟨⟨h1, h2⟩, h3, h4⟩ := fromI_rg n (t % 4).toNat (x, y) a b c d
  simp only [fromT]
  split
  · refine ⟨⟨?_, ?_⟩, h3, h4⟩ <;> simp <;> omega
  · exact ⟨⟨h1, h2⟩, h3, h4⟩
theorem cell_turn {t : Int} (h0 : 0 ≤ t) (h8 : t < 8) (P : Pic) (s : Nat) (x y : Int) (hd : P.depth ≤ s) (a : 0 ≤ x) (b : x < 2 ^ s) (c : 0 ≤ y) (d : y < 2 ^ s) :
    (P.turn t).cell s x y = P.cell s (fromT t (2 ^ s) x y).1 (fromT t (2 ^ s) x y).2 := by
  have r1 : ∀ {u : Int}, 0 ≤ u → u < 8 → ∀ {x y : Int}, 0 ≤ x → x < 2 ^ s → 0 ≤ y → y < 2 ^ s → (P.turn (afterI u 1)).cell s x y = (P.turn u).cell s y (2 ^ s - 1 - x) := fun {u} u0 u8 {x y} a b c d => by
    rw [← turn_turn u0 u8 (by decide) (by decide), cell_rot _ s x y (by rw [turn_depth u0 u8]; exact hd) a b c d]
  have t1 : ∀ {x y : Int}, 0 ≤ x → x < 2 ^ s → 0 ≤ y → y < 2 ^ s → (P.turn 1).cell s x y = P.cell s y (2 ^ s - 1 - x) := fun {x y} a b c d => cell_rot P s x y hd a b c d
  have t2 : ∀ {x y : Int}, 0 ≤ x → x < 2 ^ s → 0 ≤ y → y < 2 ^ s → (P.turn 2).cell s x y = P.cell s (2 ^ s - 1 - x) (2 ^ s - 1 - y) := fun {x y} a b c d => by
    have := r1 (u := 1) (by decide) (by decide) a b c d
    rw [show afterI 1 1 = 2 from by decide] at this
    rw [this, t1 c d (by omega) (by omega)]
  have t3 : ∀ {x y : Int}, 0 ≤ x → x < 2 ^ s → 0 ≤ y → y < 2 ^ s → (P.turn 3).cell s x y = P.cell s (2 ^ s - 1 - y) x := fun {x y} a b c d => by
    have := r1 (u := 2) (by decide) (by decide) a b c d
    rw [show afterI 2 1 = 3 from by decide] at this
    rw [this, t2 c d (by omega) (by omega)]
    congr 1; omega
  have t4 : ∀ {x y : Int}, 0 ≤ x → x < 2 ^ s → 0 ≤ y → y < 2 ^ s → (P.turn 4).cell s x y = P.cell s (2 ^ s - 1 - x) y := fun {x y} a b c d => cell_mir P s x y hd a b c d
  have t5 : ∀ {x y : Int}, 0 ≤ x → x < 2 ^ s → 0 ≤ y → y < 2 ^ s → (P.turn 5).cell s x y = P.cell s (2 ^ s - 1 - y) (2 ^ s - 1 - x) := fun {x y} a b c d => by
    have := r1 (u := 4) (by decide) (by decide) a b c d
    rw [show afterI 4 1 = 5 from by decide] at this
    rw [this, t4 c d (by omega) (by omega)]
  have t6 : ∀ {x y : Int}, 0 ≤ x → x < 2 ^ s → 0 ≤ y → y < 2 ^ s → (P.turn 6).cell s x y = P.cell s x (2 ^ s - 1 - y) := fun {x y} a b c d => by
    have := r1 (u := 5) (by decide) (by decide) a b c d
    rw [show afterI 5 1 = 6 from by decide] at this
    rw [this, t5 c d (by omega) (by omega)]
    congr 1; omega
  have t7 : ∀ {x y : Int}, 0 ≤ x → x < 2 ^ s → 0 ≤ y → y < 2 ^ s → (P.turn 7).cell s x y = P.cell s y x := fun {x y} a b c d => by
    have := r1 (u := 6) (by decide) (by decide) a b c d
    rw [show afterI 6 1 = 7 from by decide] at this
    rw [this, t6 c d (by omega) (by omega)]
    congr 1; omega
  rcases eight h0 h8 with rfl | rfl | rfl | rfl | rfl | rfl | rfl | rfl
  · rw [turn_zero]; rfl
  · exact t1 a b c d
  · exact t2 a b c d
  · rw [t3 a b c d]; simp [fromT, fromI]; congr 1; omega
  · exact t4 a b c d
  · rw [t5 a b c d]; simp [fromT, fromI]
  · rw [t6 a b c d]; simp [fromT, fromI]; congr 1; omega
  · rw [t7 a b c d]; simp [fromT, fromI]; congr 1 <;> omega
/-! ### a base of the pictures: each is one of bs, turned -/
def Base (bs ps : List Pic) : Prop := ∀ P ∈ ps, ∃ B ∈ bs, ∃ t : Int, (0 ≤ t ∧ t < 8) ∧ P = B.turn t
theorem Base.turn {bs ps : List Pic} (h : Base bs ps) {P : Pic} (hP : P ∈ ps) {t : Int} (h0 : 0 ≤ t) (h8 : t < 8) : ∃ B ∈ bs, ∃ u : Int, (0 ≤ u ∧ u < 8) ∧ P.turn t = B.turn u := by
  obtain ⟨B, hB, u, ⟨u0, u8⟩, rfl⟩ := h P hP
  exact ⟨B, hB, afterI u t, after_rg u0 u8 h0 h8, turn_turn u0 u8 h0 h8 B⟩
theorem Base.mono {bs cs ps : List Pic} (h : Base bs ps) (s : ∀ B ∈ bs, B ∈ cs) : Base cs ps := fun P hP => by
  obtain ⟨B, hB, r⟩ := h P hP
  exact ⟨B, s B hB, r⟩
theorem Base.len {bs ps : List Pic} (h : Base bs ps) (nd : ps.Nodup) : ps.length ≤ 8 * bs.length := by
  have e := nodup_sub (m := bs.flatMap fun B => (List.range 8).map fun t : Nat => B.turn ((t : Nat) : Int)) nd fun P hP => by
    obtain ⟨B, hB, t, ⟨t0, t8⟩, rfl⟩ := h P hP
    simp only [List.mem_flatMap, List.mem_range, List.mem_map]
    exact ⟨B, hB, t.toNat, by omega, by rw [Int.toNat_of_nonneg t0]⟩
  have e2 : ∀ l : List Pic, (l.flatMap fun B => (List.range 8).map fun t : Nat => B.turn ((t : Nat) : Int)).length = 8 * l.length := by
    intro l
    induction l with
    | nil => rfl
    | cons x l ih => rw [List.flatMap_cons, List.length_append, ih, List.length_map, List.length_range, List.length_cons]; omega
  rw [e2] at e
  exact e
theorem Base.add {bs ps : List Pic} (h : Base bs ps) {P : Pic} (hP : ∃ B ∈ bs, ∃ t : Int, (0 ≤ t ∧ t < 8) ∧ P = B.turn t) : Base bs (addP ps P) := fun Q hQ => by
  rcases addP_sub hQ with z | z
  · exact h Q z
  · rw [z]; exact hP
theorem Base.app {bs ps qs : List Pic} (h : Base bs (ps ++ qs)) : Base bs ps := fun P hP => h P (List.mem_append_left _ hP)
/-! ### the table of the turned -/
theorem putK_keys {κ : Type} [DecidableEq κ] (kvs : List (κ × V)) (k : κ) (v : V) : (putK kvs k v).map (·.1) = if (valV kvs k).isSome then kvs.map (·.1) else kvs.map (·.1) ++ [k] := by
  unfold putK
  rw [valV_any]
  split
  · rw [List.map_map]
    apply List.map_congr_left
    intro kv _
    simp only [Function.comp]
    split <;> rfl
  · simp
theorem valV_mem {κ : Type} [DecidableEq κ] {kvs : List (κ × V)} {k : κ} (h : valV kvs k = none) : k ∉ kvs.map (·.1) := by
  intro hk
  obtain ⟨kv, h1, h2⟩ := List.mem_map.mp hk
  have : (kvs.any fun kv => decide (kv.1 = k)) = true := List.any_eq_true.mpr ⟨kv, h1, by simpa using h2⟩
  rw [valV_any, h] at this
  cases this
theorem WhOk.put {ps : List Pic} {wh : List (List Key × V)} (h : WhOk ps wh) {f t : Int} {P : Pic} (hP : IsF ps f P) (h0 : 0 ≤ t) (h8 : t < 8) (hm : P.turn t ∈ ps) : WhOk ps (putK wh [.inl f, .inl t] (.int (ix ps (P.turn t) : Nat))) where
  val := fun f' t' v e => by
    rw [valV_put] at e
    split at e
    · rename_i hk
      injection hk with k1 k2
      injection k2 with k2 _
      injection k1 with k1
      injection k2 with k2
      subst k1 k2
      exact ⟨P, hP, hm, (Option.some.inj e).symm⟩
    · exact h.val f' t' v e
  nd := by
    rw [putK_keys]
    cases q : valV wh [.inl f, .inl t] with
    | some v => simpa [q] using h.nd
    | none =>
      simp only [Option.isSome_none, Bool.false_eq_true, if_false]
      rw [List.nodup_append]
      refine ⟨h.nd, by simp, fun a ha b hb => ?_⟩
      simp only [List.mem_singleton] at hb
      subst hb
      exact fun z => valV_mem q (z ▸ ha)
  keys := fun k hk => by
    rw [putK_keys] at hk
    have new : ∃ i u : Nat, i < ps.length ∧ u < 8 ∧ ([.inl f, .inl t] : List Key) = [.inl (i : Int), .inl (u : Int)] := by
      refine ⟨f.toNat, t.toNat, by have := hP.1; have := hP.lt; omega, by omega, ?_⟩
      rw [Int.toNat_of_nonneg hP.1, Int.toNat_of_nonneg h0]
    split at hk
    · exact h.keys k hk
    · rcases List.mem_append.mp hk with z | z
      · exact h.keys k z
      · simp only [List.mem_singleton] at z
        subst z
        exact new
section
variable {C : Addr} {H H' : Hp} {p : Addr} {A : FA} {D : Addr → Prop} {ps : List Pic}
theorem Keep.setNew {F : Addr → Prop} {a : Addr} {o : HO} (h : Keep F H H') (f : H a = none) : Keep F H (upd H' a o) := fun b u e n => by
  rw [upd_ne (ne_of_none e f)]; exact h b u e n
theorem FacesAt.whirlSet (h : FacesAt C H p A D ps) {wh wh' : List (List Key × V)} (hw : H A.w = some (.dT wh)) (ok : WhOk ps wh') : FacesAt C (upd H A.w (.dT wh')) p A D ps := by
  have pf := foot_p h
  obtain ⟨⟨dx, ob⟩, ⟨ns, n1, n2, n3⟩, dd, ⟨ss, s1, s2, s3⟩, ⟨kvs, k1, k2⟩, ⟨wh0, w1, w2⟩, inv, dp, df, ex, ap1, ap2, ap3, ap4⟩ := h
  refine ⟨⟨dx, by rw [upd_ne (fun z => pf (by rw [z]; exact .inr (.inr (.inr (.inr rfl)))))]; exact ob⟩, ⟨ns, by rw [upd_ne (ne_of n1 hw (by intro z; cases z))]; exact n1, n2, fun i a P e1 e2 => ⟨(n3 i a P e1 e2).1, by
    rw [upd_ne (ne_of (n3 i a P e1 e2).2 hw (by intro z; cases z))]; exact (n3 i a P e1 e2).2⟩⟩, by rw [upd_ne (ne_of dd hw (by intro z; cases z))]; exact dd, ⟨ss, by rw [upd_ne (ne_of s1 hw (by intro z; cases z))]; exact s1, s2, fun i a P e1 e2 => ⟨(s3 i a P e1 e2).1, (s3 i a P e1 e2).2.1, by
    rw [upd_ne (ne_of (s3 i a P e1 e2).2.2 hw (by intro z; cases z))]; exact (s3 i a P e1 e2).2.2⟩⟩, ⟨kvs, by rw [upd_ne ap4]; exact k1, k2⟩, ⟨wh', upd_same, ok⟩, inv, dp, df, fun b hb => upd_ex (ex b hb), ap1, ap2, ap3, ap4⟩
/-- .. with more pictures, all out of the base -/
def AfterX (C : Addr) (H : Hp) (p : Addr) (A : FA) (D : Addr → Prop) (bs ps : List Pic) (R : List Pic → Hp → Prop) : Prop := ∀ qs, Base bs (ps ++ qs) → After C H p A D (ps ++ qs) (R (ps ++ qs))
end
theorem z_while {c : TT} {tb : TS} {D : Ends} {σ : L2.St} {H : Hp} (Pv : Nat → L2.St → Hp → Prop) (m0 : Nat) (h0 : Pv m0 σ H)
    (hs : ∀ m σ H, Pv m σ H → c σ H fun b H1 => if b = true then ∃ N : L2.St → Hp → Prop, (∀ σ' H', N σ' H' → ∃ m', m' < m ∧ Pv m' σ' H') ∧ tb { D with nx := N, ct := N, bk := D.nx } σ H1 else D.nx σ H1) : tWhile c tb D σ H := ⟨Pv, ⟨m0, h0⟩, hs⟩
theorem divW {i j : Int} (h0 : 0 < j) (h1 : j < 1000000000000) : CDivW i j := ⟨h0, Nat.lt_of_lt_of_le ((Nat.log2_lt (k := 40) (by omega)).mpr (by omega)) (by decide)⟩
theorem pow2_le {s n : Nat} (h : s ≤ n) : (2 : Int) ^ s ≤ 2 ^ n := by
  have e1 : (2 : Int) ^ n = 2 ^ s * 2 ^ (n - s) := by rw [← Int.pow_add]; congr 1; omega
  have h1 : (1 : Int) ≤ 2 ^ (n - s) := by have := pow2 (n - s); omega
  have h2 := Int.mul_le_mul_of_nonneg_left h1 (Int.le_of_lt (pow2 s))
  rw [e1]; omega
theorem szbig {n : Nat} (h : n < 16000000) : n < sizeLine := Nat.lt_of_lt_of_le h (by decide)
theorem k_pgl {X : Cx} {es : List Expr} {pos : Pos} {k : Nat} {tt : TGs} {n : Nat} (K : PySem.W.Frag) (hc : X.calm = true) (h : PGs X es tt) (hK : X.K = K := by rfl)
    (hn : (assignEach es X.env).length = n := by rfl) (hst : (assignEach es X.env).findIdx? (·.1) = none := by rfl) : PG X (.Tuple es k pos) (gLst K n tt) := by subst hK; exact pg_lst hc h hn hst
theorem z_gLst {K : PySem.W.Frag} {σ : L2.St} {H : Hp} {GQ : L2.St → Hp → Prop} {n : Nat} {t : TGs} {a : Addr} {xs : List V} (h : SqL K H a xs) (e : xs.length = n) (k : t xs σ H GQ) : gLst K n t (.ref a) σ H GQ := ⟨a, xs, rfl, h, e, k⟩
end Mur
/-! The laws' own nodes of pictures. -/
namespace Mur
open PySem hiding start
open PySem.Spec L2
open PyProof.Rows hiding St
/-! data of tuples alone stay wherever the tuples stay -/
mutual
def flat : PyData → Bool
  | .list _ => false
  | .tuple ds => flatAll ds
  | _ => true
def flatAll : List PyData → Bool
  | [] => true
  | d :: ds => flat d && flatAll ds
end
mutual
theorem dv_stay {H H' : Hp} (k : ∀ a xs, H a = some (.tup xs) → H' a = some (.tup xs)) : ∀ {d : PyData} {v : V}, flat d = true → Dv H v d → Dv H' v d
  | _, _, _, .non => .non
  | _, _, _, .bl b => .bl b
  | _, _, _, .int i => .int i
  | _, _, _, .str x => .str x
  | _, _, f, .lst h a => by simp [flat] at f
  | _, _, f, .tup h a => .tup (k _ _ h) (dvAll_stay k (by simpa [flat] using f) a)
theorem dvAll_stay {H H' : Hp} (k : ∀ a xs, H a = some (.tup xs) → H' a = some (.tup xs)) : ∀ {ds : List PyData} {vs : List V}, flatAll ds = true → DvAll H vs ds → DvAll H' vs ds
  | _, _, _, .nil => .nil
  | _, _, f, .cons h t => by
    simp only [flatAll, Bool.and_eq_true] at f
    exact .cons (dv_stay k f.1 h) (dvAll_stay k f.2 t)
end
theorem DvAll.snoc {H : Hp} {v : V} {d : PyData} (hv : Dv H v d) : ∀ {vs : List V} {ds : List PyData}, DvAll H vs ds → DvAll H (vs ++ [v]) (ds ++ [d])
  | _, _, .nil => .cons hv .nil
  | _, _, .cons h t => .cons h (DvAll.snoc hv t)
theorem flat_mem : ∀ {ds : List PyData} {d : PyData}, flatAll ds = true → d ∈ ds → flat d = true
  | [], d, _, h => by simp at h
  | e :: ds, d, f, h => by
    simp only [flatAll, Bool.and_eq_true] at f
    rcases List.mem_cons.mp h with rfl | h
    · exact f.1
    · exact flat_mem f.2 h
theorem tup_upd {H : Hp} {l : Addr} {xs : List V} {o : HO} (h : H l = some (.lst xs)) : ∀ a ys, H a = some (.tup ys) → upd H l o a = some (.tup ys) := fun a ys e => by
  rw [upd_ne (ne_of e h (by intro z; cases z))]; exact e
theorem Keep.tup {C : Addr} {H H' : Hp} {p : Addr} {A : FA} {D : Addr → Prop} {ps : List Pic} (h : FacesAt C H p A D ps) (k : Keep A.foot H H') : ∀ a ys, H a = some (.tup ys) → H' a = some (.tup ys) := fun a ys e => k _ _ e (foot_tup h e)
/-! rows of figures -/
def zsI (b : Int) : Nat → Int → Int
  | 0, z => z
  | j + 1, z => zsI b j z / b
def tsI : Nat → Int → Int
  | 0, t => t
  | j + 1, t => (tsI j t * 48271 + 9973 * (j : Int) + 11) % 2147483647
def absI (z : Int) : Int := if z < 0 then -z else z
def rowI (z : Int) (m : Nat) (b : Int) : List Int :=
  if (1000000000000000000 : Int) ≤ absI z then (List.range m).map fun j : Nat => zsI b j (absI z) % b
  else (List.range m).map fun j : Nat => tsI (j + 1) ((absI z % 1000003 + 17) * 69621 % 2147483647) / 1021 % b
theorem row_len (z : Int) (m : Nat) (b : Int) : (rowI z m b).length = m := by
  unfold rowI
  by_cases h : (1000000000000000000 : Int) ≤ absI z
  · rw [if_pos h]; simp
  · rw [if_neg h]; simp
theorem row_rg {z : Int} {m : Nat} {b : Int} (hb : 0 < b) : ∀ x ∈ rowI z m b, 0 ≤ x ∧ x < b := by
  intro x hx
  unfold rowI at hx
  by_cases h : (1000000000000000000 : Int) ≤ absI z
  · rw [if_pos h] at hx
    obtain ⟨j, _, rfl⟩ := List.mem_map.mp hx
    exact ⟨Int.emod_nonneg _ (by omega), Int.emod_lt_of_pos _ hb⟩
  · rw [if_neg h] at hx
    obtain ⟨j, _, rfl⟩ := List.mem_map.mp hx
    exact ⟨Int.emod_nonneg _ (by omega), Int.emod_lt_of_pos _ hb⟩
theorem row_get {z : Int} {m : Nat} {b : Int} {i : Nat} (h : i < m) : (rowI z m b)[i]? = some ((rowI z m b).getD i 0) := by
  rw [List.getD_eq_getElem?_getD, List.getElem?_eq_getElem (by rw [row_len]; exact h)]; rfl
theorem row_getrg {z : Int} {m : Nat} {b : Int} (hb : 0 < b) {i : Nat} (h : i < m) : 0 ≤ (rowI z m b).getD i 0 ∧ (rowI z m b).getD i 0 < b := row_rg hb _ (List.mem_of_getElem? (row_get h))
theorem atI_row {z : Int} {m : Nat} {b : Int} {i : Nat} {k : Int} (h : i < m) (e : k = (i : Nat)) : atI ((rowI z m b).map V.int) k = some (.int ((rowI z m b).getD i 0)) := atI_of (by rw [List.getElem?_map, row_get h]; rfl) e
theorem ts_rg {t : Int} (h0 : 0 ≤ t) (h1 : t < 2147483647) : ∀ j, 0 ≤ tsI j t ∧ tsI j t < 2147483647
  | 0 => ⟨h0, h1⟩
  | j + 1 => ⟨Int.emod_nonneg _ (by decide), Int.emod_lt_of_pos _ (by decide)⟩
def pickI (f o m : Int) : Int := if f % 2 = 0 ∧ 10 < m then (if m - 1 - o % 4 > 10 then m - 1 - o % 4 else 10) else o
theorem pick_rg {f o m : Int} (h0 : 0 ≤ o) (h1 : o < 10) (hm : 10 ≤ m) : 0 ≤ pickI f o m ∧ pickI f o m < m := by
  unfold pickI
  split
  · split <;> omega
  · omega
def quI (z m : Int) : List (Int × Int) := (List.range 4).map fun k : Nat => (pickI ((rowI z 12 10).getD (3 * k) 0) ((rowI z 12 10).getD (3 * k + 1) 0) m, (rowI z 12 10).getD (3 * k + 2) 0 % 8)
def pairD (x : Int × Int) : PyData := .tuple [.int x.1, .int x.2]
theorem qu_len (z m : Int) : (quI z m).length = 4 := by simp [quI]
theorem qu_rg {z m : Int} (hm : 10 ≤ m) : ∀ x ∈ quI z m, (0 ≤ x.1 ∧ x.1 < m) ∧ 0 ≤ x.2 ∧ x.2 < 8 := by
  intro x hx
  simp only [quI, List.mem_map, List.mem_range] at hx
  obtain ⟨k, hk, rfl⟩ := hx
  have h1 := row_getrg (z := z) (m := 12) (b := 10) (by decide) (i := 3 * k + 1) (by omega)
  exact ⟨pick_rg h1.1 h1.2 hm, Int.emod_nonneg _ (by decide), Int.emod_lt_of_pos _ (by decide)⟩
theorem flat_pairs : ∀ l : List (Int × Int), flatAll (l.map pairD) = true
  | [] => rfl
  | x :: l => by simp [flatAll, flat, pairD, flat_pairs l]
/-! nodes -/
inductive Nd where
  | pl (c : Int)
  | qu (l : List (Int × Int))
def Nd.data : Nd → PyData
  | .pl c => .tuple [.int c]
  | .qu l => .tuple (l.map pairD)
theorem Nd.flat (n : Nd) : Mur.flat n.data = true := by
  cases n with
  | pl c => rfl
  | qu l => exact flat_pairs l
/-- the picture that (i, t) names -/
def atP (Ps : List Pic) (x : Int × Int) : Pic := (Ps.getD x.1.toNat (.p 0)).turn x.2
/-- nodes and their pictures -/
def NdIs (Ps : List Pic) (P : Pic) : Nd → Prop
  | .pl c => P = .p c
  | .qu l => ∃ a b c d : Int × Int, l = [a, b, c, d] ∧ P = .q (atP Ps a) (atP Ps b) (atP Ps c) (atP Ps d) ∧ ∀ x ∈ l, (0 ≤ x.1 ∧ x.1 < Ps.length) ∧ 0 ≤ x.2 ∧ x.2 < 8
theorem atP_app {Ps Qs : List Pic} {x : Int × Int} (h : 0 ≤ x.1 ∧ x.1 < Ps.length) : atP (Ps ++ Qs) x = atP Ps x := by
  have : x.1.toNat < Ps.length := by omega
  simp only [atP, List.getD_eq_getElem?_getD]
  rw [List.getElem?_append_left this]
theorem NdIs.app {Ps Qs : List Pic} {P : Pic} {n : Nd} (h : NdIs Ps P n) : NdIs (Ps ++ Qs) P n := by
  cases n with
  | pl c => exact h
  | qu l =>
    obtain ⟨a, b, c, d, rfl, rfl, hr⟩ := h
    refine ⟨a, b, c, d, rfl, ?_, fun x hx => ?_⟩
    · rw [atP_app (hr a (by simp)).1, atP_app (hr b (by simp)).1, atP_app (hr c (by simp)).1, atP_app (hr d (by simp)).1]
    · have := hr x hx
      refine ⟨⟨this.1.1, ?_⟩, this.2⟩
      have := this.1.2
      simp; omega
theorem atP_get {Ps : List Pic} {x : Int × Int} (h : 0 ≤ x.1 ∧ x.1 < Ps.length) : ∃ P, Ps[x.1.toNat]? = some P ∧ atP Ps x = P.turn x.2 := by
  have hl : x.1.toNat < Ps.length := by omega
  exact ⟨Ps[x.1.toNat], List.getElem?_eq_getElem hl, by simp [atP, hl]⟩
/-- the lists nodes_here, deeps, told -/
structure NodesL (H : Hp) (nl : Addr) (Ps : List Pic) (nds : List Nd) : Prop where
  len : nds.length = Ps.length
  lst : ∃ vs, H nl = some (.lst vs) ∧ DvAll H vs (nds.map Nd.data)
  is : ∀ (i : Nat) (P : Pic) (n : Nd), Ps[i]? = some P → nds[i]? = some n → NdIs (Ps.take i) P n
theorem flat_nds : ∀ l : List Nd, flatAll (l.map Nd.data) = true
  | [] => rfl
  | x :: l => by simp [flatAll, x.flat, flat_nds l]
theorem NodesL.stay {H H' : Hp} {nl : Addr} {Ps : List Pic} {nds : List Nd} (h : NodesL H nl Ps nds) (k : ∀ a xs, H a = some (.tup xs) → H' a = some (.tup xs)) (kl : ∀ vs, H nl = some (.lst vs) → H' nl = some (.lst vs)) : NodesL H' nl Ps nds := by
  obtain ⟨l, ⟨vs, h1, h2⟩, h3⟩ := h
  exact ⟨l, ⟨vs, kl _ h1, dvAll_stay k (flat_nds nds) h2⟩, h3⟩
theorem NodesL.same {H H' : Hp} {nl : Addr} {Ps : List Pic} {nds : List Nd} (h : NodesL H nl Ps nds) (s : Same H H') : NodesL H' nl Ps nds := h.stay (fun a xs e => s _ _ e) fun vs e => s _ _ e
theorem DvAll.at {H : Hp} : ∀ {ds : List PyData} {vs : List V} {i : Nat} {d : PyData}, DvAll H vs ds → ds[i]? = some d → ∃ v, vs[i]? = some v ∧ Dv H v d
  | _, _, _, _, .nil, e => by simp at e
  | _, _, 0, _, .cons h _, e => by simp at e; subst e; exact ⟨_, rfl, h⟩
  | _, _, i + 1, d, .cons _ t, e => by
    obtain ⟨v, h1, h2⟩ := DvAll.at (i := i) (d := d) t (by simpa using e)
    exact ⟨v, by simpa using h1, h2⟩
/-- the node at i, read in the heap -/
theorem NodesL.get2 {H : Hp} {nl : Addr} {Ps : List Pic} {nds : List Nd} (h : NodesL H nl Ps nds) {i : Nat} {P : Pic} (hP : Ps[i]? = some P) :
    ∃ vs q xs n, H nl = some (.lst vs) ∧ vs.length = Ps.length ∧ vs[i]? = some (.ref q) ∧ H q = some (.tup xs) ∧ NdIs Ps P n ∧ Dv H (.ref q) n.data ∧
      ((∃ c, n = .pl c ∧ P = .p c ∧ xs = [.int c]) ∨ ∃ a b c d : Int × Int, n = .qu [a, b, c, d] ∧ P = .q (atP Ps a) (atP Ps b) (atP Ps c) (atP Ps d) ∧ (∀ x ∈ [a, b, c, d], (0 ≤ x.1 ∧ x.1 < Ps.length) ∧ 0 ≤ x.2 ∧ x.2 < 8) ∧ xs.length = 4 ∧ DvAll H xs [pairD a, pairD b, pairD c, pairD d] ∧ ∀ x ∈ [a, b, c, d], x.1 < i) := by
  obtain ⟨hl, ⟨vs, h1, h2⟩, h3⟩ := h
  have hi : i < nds.length := by have := (List.getElem?_eq_some_iff.mp hP).1; omega
  have hn : nds[i]? = some nds[i] := List.getElem?_eq_getElem hi
  have his0 := h3 i P _ hP hn
  have his : NdIs Ps P nds[i] := by
    have h := his0.app (Qs := Ps.drop i)
    rw [List.take_append_drop] at h
    exact h
  obtain ⟨v, e1, e2⟩ := DvAll.at (i := i) (d := nds[i].data) h2 (by rw [List.getElem?_map, hn]; rfl)
  have hlen := h2.len
  rw [List.length_map, hl] at hlen
  generalize nds[i] = n at his0 his e2
  cases n with
  | pl c =>
    obtain rfl : P = .p c := his
    cases e2 with
    | @tup q xs _ hq ha =>
    cases ha with
    | cons g t =>
      cases t
      cases g
      exact ⟨vs, q, _, .pl c, h1, hlen, e1, hq, rfl, .tup hq (.cons (.int c) .nil), .inl ⟨c, rfl, rfl, rfl⟩⟩
  | qu l =>
    obtain ⟨a, b, c, d, rfl, rfl, hr⟩ := his
    cases e2 with
    | @tup q xs _ hq ha =>
      exact ⟨vs, q, xs, .qu [a, b, c, d], h1, hlen, e1, hq, ⟨a, b, c, d, rfl, rfl, hr⟩, .tup hq ha, .inr ⟨a, b, c, d, rfl, rfl, hr, ha.len, ha, fun x hx => by
        obtain ⟨a', b', c', d', e1, _, hr0⟩ := his0
        have h := (hr0 x hx).1.2
        rw [List.length_take] at h
        omega⟩⟩
theorem NodesL.get {H : Hp} {nl : Addr} {Ps : List Pic} {nds : List Nd} (h : NodesL H nl Ps nds) {i : Nat} {P : Pic} (hP : Ps[i]? = some P) :
    ∃ vs q xs n, H nl = some (.lst vs) ∧ vs.length = Ps.length ∧ vs[i]? = some (.ref q) ∧ H q = some (.tup xs) ∧ NdIs Ps P n ∧ Dv H (.ref q) n.data ∧
      ((∃ c, n = .pl c ∧ P = .p c ∧ xs = [.int c]) ∨ ∃ a b c d : Int × Int, n = .qu [a, b, c, d] ∧ P = .q (atP Ps a) (atP Ps b) (atP Ps c) (atP Ps d) ∧ (∀ x ∈ [a, b, c, d], (0 ≤ x.1 ∧ x.1 < Ps.length) ∧ 0 ≤ x.2 ∧ x.2 < 8) ∧ xs.length = 4 ∧ DvAll H xs [pairD a, pairD b, pairD c, pairD d]) := by
  obtain ⟨vs, q, xs, n, h1, h2, h3, h4, h5, h6, h7⟩ := h.get2 hP
  refine ⟨vs, q, xs, n, h1, h2, h3, h4, h5, h6, ?_⟩
  rcases h7 with h7 | ⟨a, b, c, d, e1, e2, e3, e4, e5, _⟩
  · exact .inl h7
  · exact .inr ⟨a, b, c, d, e1, e2, e3, e4, e5⟩
theorem pair_of {H : Hp} {v : V} {x : Int × Int} (h : Dv H v (pairD x)) : ∃ q, v = .ref q ∧ H q = some (.tup [.int x.1, .int x.2]) := by
  cases h with
  | @tup q xs _ hq ha =>
  cases ha with
  | cons g t =>
  cases g
  cases t with
  | cons g2 t2 =>
  cases g2
  cases t2
  exact ⟨q, rfl, hq⟩
/-! the whole stand: the store and the three lists -/
structure Stand (C : Addr) (H : Hp) (p : Addr) (A : FA) (D : Addr → Prop) (ps : List Pic) (nl dl tl : Addr) (Ps : List Pic) (nds : List Nd) : Prop where
  F : FacesAt C H p A D ps
  N : NodesL H nl Ps nds
  dp : H dl = some (.lst (Ps.map fun P => V.int (P.depth : Nat)))
  td : H tl = some (.lst (Ps.map fun P => V.int (ix ps P : Nat)))
  mem : ∀ P ∈ Ps, P ∈ ps
  base : Base Ps ps
  nn : ¬ D nl
  nd : ¬ D dl
  nt : ¬ D tl
  d1 : nl ≠ dl
  d2 : nl ≠ tl
  d3 : dl ≠ tl
  ten : 10 ≤ Ps.length
section
variable {C : Addr} {H H' : Hp} {p : Addr} {A : FA} {D D' : Addr → Prop} {ps qs : List Pic} {nl dl tl : Addr} {Ps : List Pic} {nds : List Nd}
theorem Stand.same (h : Stand C H p A D ps nl dl tl Ps nds) (s : Same H H') : Stand C H' p A D ps nl dl tl Ps nds :=
  ⟨h.F.same s, h.N.same s, s _ _ h.dp, s _ _ h.td, h.mem, h.base, h.nn, h.nd, h.nt, h.d1, h.d2, h.d3, h.ten⟩
theorem fresh_not {b : Addr} {o : HO} (e : H b = some o) (n : ¬ D b) (d2 : ∀ b, D' b → D b ∨ H b = none) : ¬ D' b := fun z => (d2 b z).elim n fun q => by rw [e] at q; cases q
theorem Stand.after (h : Stand C H p A D ps nl dl tl Ps nds) (kp : Keep A.foot H H') (hF : FacesAt C H' p A D' (ps ++ qs)) (hB : Base Ps (ps ++ qs)) (d2 : ∀ b, D' b → D b ∨ H b = none) : Stand C H' p A D' (ps ++ qs) nl dl tl Ps nds := by
  obtain ⟨_, ⟨vs, hv, _⟩, _⟩ := h.N
  refine ⟨hF, h.N.stay (kp.tup h.F) (fun vs e => kp _ _ e (h.F.ofFoot h.nn)), kp _ _ h.dp (h.F.ofFoot h.nd), ?_, fun P hP => List.mem_append_left _ (h.mem P hP), hB, fresh_not hv h.nn d2, fresh_not h.dp h.nd d2, fresh_not h.td h.nt d2, h.d1, h.d2, h.d3, h.ten⟩
  rw [kp _ _ h.td (h.F.ofFoot h.nt)]
  congr 2
  apply List.map_congr_left
  intro P hP
  rw [ix_app (h.mem P hP)]
theorem Stand.mid (h : Stand C H p A D ps nl dl tl Ps nds) (kp : Keep A.foot H H') (d2 : ∀ b, D' b → D b ∨ H b = none) (qs : List Pic) : NodesL H' nl Ps nds ∧ H' dl = some (.lst (Ps.map fun P => V.int (P.depth : Nat))) ∧ H' tl = some (.lst (Ps.map fun P => V.int (ix (ps ++ qs) P : Nat))) ∧
    (∀ P ∈ Ps, P ∈ ps ++ qs) ∧ ¬ D' nl ∧ ¬ D' dl ∧ ¬ D' tl := by
  obtain ⟨_, ⟨vs, hv, _⟩, _⟩ := h.N
  refine ⟨h.N.stay (kp.tup h.F) (fun vs e => kp _ _ e (h.F.ofFoot h.nn)), kp _ _ h.dp (h.F.ofFoot h.nd), ?_, fun P hP => List.mem_append_left _ (h.mem P hP), fresh_not hv h.nn d2, fresh_not h.dp h.nd d2, fresh_not h.td h.nt d2⟩
  rw [kp _ _ h.td (h.F.ofFoot h.nt)]
  congr 2
  apply List.map_congr_left
  intro P hP
  rw [ix_app (h.mem P hP)]
theorem Stand.updL (h : Stand C H p A D ps nl dl tl Ps nds) {L : Addr} {xs : List V} {o : HO} (hL : H L = some (.lst xs)) (nL : ¬ D L) (e1 : L ≠ nl) (e2 : L ≠ dl) (e3 : L ≠ tl) : Stand C (upd H L o) p A D ps nl dl tl Ps nds :=
  ⟨h.F.keep fun b u hb e => by rw [upd_ne (fun z => nL (by rw [← z]; exact hb))]; exact e, h.N.stay (tup_upd hL) (fun vs e => by rw [upd_ne e1.symm]; exact e), by rw [upd_ne e2.symm]; exact h.dp, by rw [upd_ne e3.symm]; exact h.td, h.mem, h.base, h.nn, h.nd, h.nt, h.d1, h.d2, h.d3, h.ten⟩
theorem back_fresh (hF : FacesAt C H' p A D' ps) (kp : Keep A.foot H H') {b : Addr} (z : H' b = none) : H b = none := by
  cases e : H b with
  | none => rfl
  | some o =>
    by_cases hf : A.foot b
    · obtain ⟨o2, e2⟩ := hF.ex b (hF.df b hf)
      rw [e2] at z; cases z
    · rw [kp b o e hf] at z; cases z
theorem quads_get {xs : List V} {l : List (Int × Int)} (hall : DvAll H xs (l.map pairD)) (hr : ∀ x ∈ l, (0 ≤ x.1 ∧ x.1 < Ps.length) ∧ 0 ≤ x.2 ∧ x.2 < 8) {k : Nat} {v : V} (e : xs[k]? = some v) :
    ∃ (z : Int × Int) (w : Addr) (r : Pic), l[k]? = some z ∧ v = .ref w ∧ H w = some (.tup [.int z.1, .int z.2]) ∧ Ps[z.1.toNat]? = some r ∧ atP Ps z = r.turn z.2 ∧ (0 ≤ z.1 ∧ z.1 < Ps.length) ∧ 0 ≤ z.2 ∧ z.2 < 8 := by
  obtain ⟨dd, e1, e2⟩ := hall.get e
  rw [List.getElem?_map] at e1
  cases e3 : l[k]? with
  | none => rw [e3] at e1; cases e1
  | some z =>
    rw [e3] at e1
    obtain rfl := Option.some.inj e1
    obtain ⟨w, rfl, hw⟩ := pair_of e2
    have hz := hr z (List.mem_of_getElem? e3)
    obtain ⟨r, hr1, hr2⟩ := atP_get hz.1
    exact ⟨z, w, r, rfl, rfl, hw, hr1, hr2, hz.1, hz.2⟩
theorem Stand.push {P : Pic} {n : Nd} {v : V} {vs : List V} (hF : FacesAt C H p A D ps) (hN : NodesL H nl Ps nds) (hd : H dl = some (.lst (Ps.map fun P => V.int (P.depth : Nat)))) (ht : H tl = some (.lst (Ps.map fun P => V.int (ix ps P : Nat)))) (mem : ∀ P ∈ Ps, P ∈ ps)
    (base : Base (Ps ++ [P]) ps) (nn : ¬ D nl) (nd : ¬ D dl) (nt : ¬ D tl) (d1 : nl ≠ dl) (d2 : nl ≠ tl) (d3 : dl ≠ tl) (ten : 10 ≤ Ps.length) (hm : P ∈ ps) (is : NdIs Ps P n) (hv : Dv H v n.data) (hvs : H nl = some (.lst vs)) :
    Stand C (upd (upd (upd H nl (.lst (vs ++ [v]))) dl (.lst ((Ps.map fun P => V.int (P.depth : Nat)) ++ [.int (P.depth : Nat)]))) tl (.lst ((Ps.map fun P => V.int (ix ps P : Nat)) ++ [.int (ix ps P : Nat)]))) p A D ps nl dl tl (Ps ++ [P]) (nds ++ [n]) := by
  obtain ⟨hl, ⟨vs', e1, e2⟩, e3⟩ := hN
  obtain rfl : vs' = vs := by rw [hvs] at e1; injection e1 with e1; injection e1 with e1; exact e1.symm
  have k1 : ∀ a xs, H a = some (.tup xs) → (upd (upd (upd H nl (.lst (vs' ++ [v]))) dl (.lst ((Ps.map fun P => V.int (P.depth : Nat)) ++ [.int (P.depth : Nat)]))) tl (.lst ((Ps.map fun P => V.int (ix ps P : Nat)) ++ [.int (ix ps P : Nat)]))) a = some (.tup xs) := fun a xs e => by
    rw [upd_ne (ne_of e ht (by intro z; cases z)), upd_ne (ne_of e hd (by intro z; cases z)), upd_ne (ne_of e hvs (by intro z; cases z))]; exact e
  refine ⟨?_, ⟨by simp [hl], ⟨vs' ++ [v], by rw [upd_ne d2, upd_ne d1, upd_same], ?_⟩, ?_⟩, by rw [upd_ne d3, upd_same, List.map_append]; rfl, by rw [upd_same, List.map_append]; rfl, ?_, base, nn, nd, nt, d1, d2, d3, by simp; omega⟩
  · refine hF.keep fun b o hb e => ?_
    rw [upd_ne (fun z => nt (by rw [← z]; exact hb)), upd_ne (fun z => nd (by rw [← z]; exact hb)), upd_ne (fun z => nn (by rw [← z]; exact hb))]; exact e
  · rw [List.map_append]
    exact DvAll.snoc (dv_stay k1 n.flat hv) (dvAll_stay k1 (flat_nds nds) e2)
  · intro i P' n' h1 h2
    by_cases hi : i < Ps.length
    · rw [List.getElem?_append_left hi] at h1
      rw [List.getElem?_append_left (by omega)] at h2
      rw [List.take_append_of_le_length (by omega)]
      exact e3 i P' n' h1 h2
    · have hi2 : i = Ps.length := by
        have := (List.getElem?_eq_some_iff.mp h1).1
        simp at this; omega
      subst hi2
      rw [List.getElem?_append_right (Nat.le_refl _)] at h1
      rw [← hl, List.getElem?_append_right (Nat.le_refl _)] at h2
      simp at h1 h2
      subst h1 h2
      rw [List.take_append_of_le_length (Nat.le_refl _), List.take_of_length_le (Nat.le_refl _)]
      exact is
  · intro P' hP'
    rcases List.mem_append.mp hP' with z | z
    · exact mem P' z
    · simp at z; subst z; exact hm
end
def colP : Pic → Int
  | .p c => c
  | _ => 0
theorem keep_seq {K : PySem.W.Frag} {F : Addr → Prop} {H H' : Hp} {a : Addr} {xs : List V} (k : Keep F H H') (f : ∀ b, F b → H b = none) (h : SqL K H a xs) : SqL K H' a xs := by
  rcases h with (h | ⟨o, h⟩) | h
  · exact .inl (.inl (k _ _ h fun z => by rw [f _ z] at h; cases h))
  · exact .inl (.inr ⟨o, k _ _ h fun z => by rw [f _ z] at h; cases h⟩)
  · exact .inr h
theorem cut_ints (ns : List Int) (lo hi : Option Int) : ∃ ms : List Int, cutV (ns.map V.int) lo hi = ms.map V.int ∧ ms.length ≤ ns.length := by
  unfold cutV
  refine ⟨(ns.drop (HT.sIx (ns.map V.int).length 0 lo)).take (HT.sIx (ns.map V.int).length (ns.map V.int).length hi - HT.sIx (ns.map V.int).length 0 lo), by rw [List.map_take, List.map_drop], ?_⟩
  rw [List.length_take, List.length_drop]
  omega
/-- the ten plain pictures -/
def plains (n : Nat) : List Pic := (List.range n).map fun k : Nat => Pic.p (k : Int)
theorem plains_get {n k : Nat} (h : k < n) : (plains n)[k]? = some (.p (k : Int)) := by simp [plains, h]
theorem plains_nodup (n : Nat) : (plains n).Nodup := by
  unfold plains List.Nodup
  rw [List.pairwise_map]
  refine List.Pairwise.imp (fun {a b} h e => h ?_) (List.nodup_range (n := n))
  injection e with e
  omega
theorem plains_add (n : Nat) : addP (plains n) (.p (n : Int)) = plains (n + 1) := by
  have : Pic.p (n : Int) ∉ plains n := by
    simp only [plains, List.mem_map, List.mem_range]
    rintro ⟨k, hk, e⟩
    injection e with e
    omega
  unfold addP
  rw [if_neg this]
  simp [plains, List.range_succ]
theorem plains_ix {n k : Nat} (h : k < n) : ix (plains n) (.p (k : Int)) = k := ix_of (plains_nodup n) (plains_get h)
theorem plains_len (n : Nat) : (plains n).length = n := by simp [plains]
theorem base_plains (n : Nat) : Base (plains n) (plains n) := fun P hP => ⟨P, hP, 0, by decide, (turn_zero P).symm⟩
end Mur
/-! sorted(xs, key=f) in a def's body: f's calls may lay new things, all that is tracked stays; keys: pairs of ints. -/
namespace Mur
open PySem hiding start
open PySem.Spec L2
open PyProof.Rows hiding St
open PySem.W (EachIs KeepsBut SortsAt dataKind AllAlike dataLe sortVals KeyedOut copyHeap sortingHeap)
section
variable {X : Cx} {pins : List (Addr × Obj)} {σ : L2.St} {H : Hp} {s s0 : Shared} {h' : Heap} {ch : List Addr}
/-- untracked things that were not there at s0 may be written -/
theorem inv_out {σ0 : L2.St} {H0 : Hp} {t' : Nat} (I0 : Inv X pins σ0 H0 s0) (I : Inv X pins σ H s) (n : ∀ b ∈ ch, H b = none) (new : ∀ b ∈ ch, s0.heap.objs.size ≤ b) (kp : ∀ b o, b ∉ ch → s.heap.get? b = some o → h'.get? b = some o) : Inv X pins σ H { s with heap := h', toks := t' } := by
  refine I.call (g' := s.gens) (d' := s.drawn) (ch := ch) ⟨fun b o e _ _ hx => kp b o hx e, fun b o e _ _ hx => ⟨o.slots, kp b o hx e⟩, fun _ _ _ n _ => n, fun b o e hx => ⟨o, kp b o hx e⟩, fun _ _ e => e, fun _ _ _ e => e, fun _ ps e => ⟨#[], by rw [e]; simp⟩⟩ (fun b u q => ?_) I.bare fun b hb => ⟨.inr (Nat.le_trans I0.sz (new b hb)), fun z => ?_, fun x c e z => ?_, fun p hp z => ?_⟩
  · refine (I.hok b u q).stay (fun c v hc r => kp c v (fun w => ?_) r) (fun _ q => q) fun _ _ q => q
    have := n c w
    rcases hc with rfl | hc
    · rw [q] at this; cases this
    · rw [hc] at this; cases this
  · have h1 := I0.lt
    rw [← z] at h1
    exact absurd (Nat.lt_of_lt_of_le h1 (new b hb)) (Nat.lt_irrefl _)
  · obtain ⟨v, o, ho, _⟩ := I0.cell x c e
    have h1 := Heap.lt_size ho
    rw [z] at h1
    exact absurd (Nat.lt_of_lt_of_le h1 (new b hb)) (Nat.lt_irrefl _)
  · have h1 := Heap.lt_size (I0.pin p hp).1
    rw [z] at h1
    exact absurd (Nat.lt_of_lt_of_le h1 (new b hb)) (Nat.lt_irrefl _)
/-- a thing that was not there at s0 is tracked from now on -/
theorem inv_track {σ0 : L2.St} {H0 : Hp} {a : Addr} {o : HO} (I0 : Inv X pins σ0 H0 s0) (I : Inv X pins σ H s) (n : H a = none) (new : s0.heap.objs.size ≤ a) (ok : ObjOk X.prog X.w (upd H a o) s.heap a o) : Inv X pins σ (upd H a o) s := by
  have ne : ∀ b u, H b = some u → b ≠ a := fun b u e z => by rw [z, n] at e; cases e
  have lt : ∀ b (u : Obj), s0.heap.get? b = some u → b ≠ a := fun b u e z => by
    have h1 := Heap.lt_size e
    rw [z] at h1
    exact absurd (Nat.lt_of_lt_of_le h1 new) (Nat.lt_irrefl _)
  have lt0 : ∀ b (u : Obj), X.s_0.heap.get? b = some u → b ≠ a := fun b u e z => by
    have h1 := Heap.lt_size e
    rw [z] at h1
    exact absurd (Nat.lt_of_lt_of_le h1 (Nat.le_trans I0.sz new)) (Nat.lt_irrefl _)
  refine ⟨I.ok, I.os, I.bare, ⟨I.base.keep, I.base.slot, fun b u e q hx => by rw [upd_ne (lt0 b u e)]; exact I.base.free b u e q hx, I.base.there, fun b xs e => ?_, fun b u v e => ?_, fun b ps e => ?_⟩, I.loc, I.cell, ?_, fun x c e => ?_, fun p hp => ?_, fun b u e => ?_, I.len⟩
  · have := I.base.tups b xs e
    rw [upd_ne (ne b _ this)]; exact this
  · have := I.base.frzs b u v e
    rw [upd_ne (ne b _ this)]; exact this
  · obtain ⟨more, this⟩ := I.base.tbls b ps e
    exact ⟨more, by rw [upd_ne (ne b _ this)]; exact this⟩
  · rw [upd_ne (fun z => by
      have h1 := I0.lt
      rw [z] at h1
      exact absurd (Nat.lt_of_lt_of_le h1 new) (Nat.lt_irrefl _))]
    exact I.free
  · obtain ⟨v, o, ho, _⟩ := I0.cell x c e
    rw [upd_ne (lt c o ho)]; exact I.freeC x c e
  · obtain ⟨e1, e2, e3⟩ := I.pin p hp
    refine ⟨e1, ?_, e3⟩
    rw [upd_ne (lt p.1 _ (I0.pin p hp).1)]; exact e2
  · by_cases c : b = a
    · subst c
      rw [upd_same] at e
      obtain rfl := Option.some.inj e
      exact ok
    · rw [upd_ne c] at e
      exact (I.hok b u e).stay (fun c v _ r => r) (fun c q => by rw [upd_ne (ne c _ q)]; exact q) fun c xs q => by rw [upd_ne (ne c _ q)]; exact q
/-- what the keys read as -/
def kd (g : Int → Int × Int) (n : Int) : PyData := .tuple [.int (g n).1, .int (g n).2]
def KeyV (H : Hp) (g : Int → Int × Int) (v : Value) (n : Int) : Prop := ∃ t, v = .ref t ∧ H t = some (.tup [.int (g n).1, .int (g n).2])
theorem KeyV.reads {g : Int → Int × Int} {P : Program} {w : World} {h : Heap} (ok : HOk P w H h) {v : Value} {n : Int} (k : KeyV H g v n) : ∃ as, Reads h v (kd g n) as := by
  obtain ⟨t, rfl, ht⟩ := k
  obtain ⟨_, its, r, o, ho, hc, e, hd⟩ := ok t _ ht
  cases r with
  | cons r1 r =>
    cases r with
    | cons r2 r =>
      cases r
      obtain ⟨t1, rfl⟩ := r1
      obtain ⟨t2, rfl⟩ := r2
      exact ⟨_, .tuple ho hc hd (.cons (.int _ _) (.cons (.int _ _) .nil))⟩
theorem stk_ne (I : Inv X pins σ H s) {a : Addr} (h : s.heap.objs.size ≤ a) : a ∉ frs X.stack := fun z => by
  rcases List.mem_cons.mp (I.stkSub a z) with e | e
  · have h1 := I.lt
    rw [← e] at h1
    exact absurd (Nat.lt_of_lt_of_le h1 h) (Nat.lt_irrefl _)
  · exact I.nofs h e
theorem kd_alike (g : Int → Int × Int) (ns : List Int) : AllAlike (ns.map (kd g)) := fun d hd d' hd' => by
  obtain ⟨n, _, rfl⟩ := List.mem_map.mp hd
  obtain ⟨m, _, rfl⟩ := List.mem_map.mp hd'
  simp [kd, PySem.W.alike, PySem.W.alikeAll]
theorem kd_sortable (g : Int → Int × Int) (ns : List Int) : PySem.W.Sortable (ns.map (kd g)) := .inl fun d hd => by
  obtain ⟨n, _, rfl⟩ := List.mem_map.mp hd
  exact ⟨_, _, rfl⟩
theorem each_to_map {α β γ : Type} {R : α → γ → Prop} (f : β → γ) : ∀ {as : List α} {bs : List β}, EachIs (fun a b => R a (f b)) as bs → EachIs R as (bs.map f)
  | _, _, .nil => .nil
  | _, _, .cons h t => .cons h (each_to_map f t)
theorem each_ints : ∀ {vs : List Value} {ns : List Int}, IntsAre vs ns → EachIs (fun v n => ∃ t, v = Value.int n t) vs ns
  | _, _, .nil => .nil
  | _, _, .cons _ t h => .cons ⟨t, rfl⟩ (each_ints h)
theorem ints_each : ∀ {vs : List Value} {ns : List Int}, EachIs (fun v n => ∃ t, v = Value.int n t) vs ns → IntsAre vs ns
  | _, _, .nil => .nil
  | _, _, .cons ⟨t, e⟩ h => by rw [e]; exact .cons _ t (ints_each h)
/-- sorted(l, key=f) -/
theorem sortK_run {l f : Addr} {ns : List Int} {g : Int → Int × Int} {Q : VK} (I : Inv X pins σ H s) (hs : SqL X.K H l (ns.map V.int)) (hu : X.A.units + 64 < cLine)
    (turn : ∀ (n : Int) (t : Tok) (H1 : Hp) (s1 : Shared), n ∈ ns → Same H H1 → Inv X pins σ H1 s1 → wpAny (model X.prog X.w) X.A.in1.in1 (call (.ref f) [.int n t]) (CE X.stack X.prog X.w H1 s1 (fun v H2 => Same H1 H2 ∧ ∃ p, v = .ref p ∧ H2 p = some (.tup [.int (g n).1, .int (g n).2]))) (fun _ _ => False) s1)
    (q : ∀ H1 p, Same H H1 → H1 p = none → Q (.ref p) (upd H1 p (.lst ((ns.mergeSort (dataLe false (kd g))).map V.int)))) :
    wpAny (model X.prog X.w) X.A (call (.builtin "sorted") [.ref l] [(Str.ofString "key", .ref f)]) (EP X pins σ Q) X.xe s := by
  obtain ⟨its, rv, hl, hz⟩ := I.list hs
  have hi := rv.ints
  rw [List.length_map] at hz
  have hil : its.length = ns.length := hi.length
  have hZ : its.length ≤ sizeLine := by omega
  refine PySem.W.sorted_of_sort hl.isList hZ (PyProof.Rows.ksk_s1 _ _) (fun _ => PyProof.Rows.ksk_l1 _ _) fun E' => ?_
  rw [PyProof.Rows.ksk_t1]
  have ho := PySem.W.copyHeap_at s.heap its
  have ha : s.heap.objs.size + 1 < (copyHeap s.heap its).objs.size := Heap.lt_size ho
  have sza : s.heap.objs.size ≤ s.heap.objs.size + 1 := Nat.le_succ _
  have lta : ∀ b o, s.heap.get? b = some o → b ≠ s.heap.objs.size + 1 := fun b o e => Nat.ne_of_lt (Nat.lt_succ_of_lt (Heap.lt_size e))
  have old : ∀ b o, s.heap.get? b = some o → (sortingHeap (copyHeap s.heap its) (s.heap.objs.size + 1) its).get? b = some o := fun b o e => PySem.W.sortingHeap_old (lta b o e) (PySem.W.copyHeap_old e)
  generalize hA : s.heap.objs.size + 1 = a at *
  obtain ⟨e1, ho1⟩ : ∃ e1, ((copyHeap s.heap its).update a (Obj.mapSeq fun _ => (#[] : Array Value))).get? a = some (seqObj "list" #[] e1) := ⟨_, get?_update_seq ho fun _ => #[]⟩
  have hkS : (((copyHeap s.heap its).update a (Obj.mapSeq fun _ => (#[] : Array Value))).push (seqObj "tuple" its.toArray 0)).objs.size = (copyHeap s.heap its).objs.size + 1 := by rw [size_push', Heap.size_update]
  unfold PyProof.Rows.ksk_tree
  refine wpAny_bind (listItems_at ho rfl ?_)
  refine wpAny_bind (listUpdate_at ho rfl ?_ (by rw [List.size_toArray]; exact hZ) (Nat.zero_le _))
  refine wpAny_bind (seqEpoch_at ho1 rfl ?_)
  refine wpAny_bind (wpAny_newTuple ?_ (by show its.length ≤ _; exact hZ))
  refine wpAny_bind (wpAny_newList ?_ (Nat.zero_le _))
  refine wpAny_holding ?_
  show wpAny (model X.prog X.w) X.A.in1.in1 (PyProof.Rows.ksk_rest a (.ref f) false its.toArray e1 (.ref (((copyHeap s.heap its).update a (Obj.mapSeq fun _ => (#[] : Array Value))).push (seqObj "tuple" its.toArray 0)).objs.size)) _ _ { s with heap := sortingHeap (copyHeap s.heap its) a its }
  have nk0 : (sortingHeap (copyHeap s.heap its) a its).get? (((copyHeap s.heap its).update a (Obj.mapSeq fun _ => (#[] : Array Value))).push (seqObj "tuple" its.toArray 0)).objs.size = some (seqObj "list" #[] 0) := Heap.get?_push_size _ rfl
  have na0 : (sortingHeap (copyHeap s.heap its) a its).get? a = some (seqObj "list" #[] e1) := Heap.get?_push_of_some _ (Heap.get?_push_of_some _ ho1)
  have szk : s.heap.objs.size ≤ (((copyHeap s.heap its).update a (Obj.mapSeq fun _ => (#[] : Array Value))).push (seqObj "tuple" its.toArray 0)).objs.size := by
    rw [hkS]
    have : a < (copyHeap s.heap its).objs.size := ha
    exact Nat.le_of_lt (Nat.lt_of_le_of_lt sza (Nat.lt_succ_of_lt this))
  have hka : (((copyHeap s.heap its).update a (Obj.mapSeq fun _ => (#[] : Array Value))).push (seqObj "tuple" its.toArray 0)).objs.size ≠ a := by
    rw [hkS]
    exact Nat.ne_of_gt (Nat.lt_succ_of_lt ha)
  generalize (((copyHeap s.heap its).update a (Obj.mapSeq fun _ => (#[] : Array Value))).push (seqObj "tuple" its.toArray 0)).objs.size = kS at nk0 szk hka ⊢
  have I1 : Inv X pins σ H { s with heap := sortingHeap (copyHeap s.heap its) a its } := I.kept (t' := s.toks) old
  have nHa : H a = none := I.hok.fresh sza
  have nHk : H kS = none := I.hok.fresh szk
  have fra := stk_ne I sza
  have frk := stk_ne I szk
  unfold PyProof.Rows.ksk_rest
  refine wpAny_bind (wpAny_rule ?_)
  rw [List.forIn_toArray]
  refine wpAny_bind (PyProof.Rows.ksk_fold (fun i s' => ∃ H1 kA e, Same H H1 ∧ Inv X pins σ H1 s' ∧ H1 kS = none ∧ H1 a = none ∧ s'.heap.get? kS = some (seqObj "list" kA e) ∧ s'.heap.get? a = some (seqObj "list" #[] e1) ∧ EachIs (KeyV H1 g) kA.toList (ns.take i)) its 0 _
    ⟨H, #[], 0, Same.refl H, I1, nHk, nHa, nk0, na0, by rw [List.take_zero]; exact EachIs.nil⟩ ?step ?done)
  case step =>
    rintro j x s' hx ⟨H1, kA, e, sm, I', n1k, n1a, nk, na, hk⟩
    simp only [Nat.zero_add] at hk ⊢
    have hj : j < its.length := (List.getElem?_eq_some_iff.mp hx).1
    obtain ⟨n, hn⟩ : ∃ n, ns[j]? = some n := ⟨_, List.getElem?_eq_getElem (by omega)⟩
    obtain ⟨t, ht⟩ := hi.get j n hn
    rw [ht] at hx
    obtain rfl := Option.some.inj hx
    have hz2 : kA.size ≤ its.length := by
      have h1 := hk.length
      rw [Array.length_toList, List.length_take] at h1
      omega
    refine wpAny_bind (wpAny_attempt (wpAny_mono (turn n t H1 s' (List.mem_of_getElem? hn) sm I') (fun v s2 he => ?_) fun _ _ hF => hF.elim))
    obtain ⟨v', H2, os, bare, un, hok, r, sm2, p, rfl, hp⟩ := he
    obtain ⟨hh, g', d, t', os'⟩ := s2
    obtain rfl : os' = s'.os := os
    have I2 := I'.call (h' := hh) (g' := g') (d' := d) (t' := t') (ch := []) un hok bare (fun b z => absurd z (by simp))
    obtain rfl : v = Value.ref p := r
    have nk2 : hh.get? kS = some (seqObj "list" kA e) := un.keep kS _ nk n1k frk (by simp)
    have na2 : hh.get? a = some (seqObj "list" #[] e1) := un.keep a _ na n1a fra (by simp)
    have n2k : H2 kS = none := un.free kS _ nk n1k (by simp)
    have n2a : H2 a = none := un.free a _ na n1a (by simp)
    try dsimp only
    have s1 := Heap.SameBut.update hh kS (Obj.mapSeq (·.push (Value.ref p)))
    obtain ⟨c2, hc2⟩ : ∃ c2, (hh.update kS (Obj.mapSeq (·.push (Value.ref p)))).get? kS = some (seqObj "list" (kA.push (Value.ref p)) c2) := ⟨_, get?_update_seq nk2 (·.push (Value.ref p))⟩
    refine wpAny_bind (listUpdate_at nk2 rfl ?_ (Nat.le_trans hz2 hZ) (Nat.le_trans (Nat.le_of_eq (Array.size_push ..)) (Nat.succ_le_succ (Nat.le_trans hz2 hZ))))
    have ek : ns.take (j + 1) = ns.take j ++ [n] := by rw [List.take_add_one, hn]; simp
    have ea : (kA.push (Value.ref p)).toList = kA.toList ++ [Value.ref p] := by simp
    refine wpAny_pure ⟨rfl, H2, kA.push (Value.ref p), c2, sm.trans sm2, inv_out (ch := [kS]) I I2 (fun b hb => ?_) (fun b hb => ?_) (fun b o hb e => (s1.2 b (fun z => hb (by rw [z]; simp))).trans e), n2k, n2a, hc2, (s1.2 a hka.symm).trans na2, ?_⟩
    · rw [List.mem_singleton.mp hb]; exact n2k
    · rw [List.mem_singleton.mp hb]; exact szk
    · rw [ea, ek]
      exact PySem.W.each_snoc ⟨p, rfl, hp⟩ (hk.mono fun v n ⟨t, e1, e2⟩ => ⟨t, e1, sm2 _ _ e2⟩)
  case done =>
    rintro s' ⟨H1, kA, e, sm, I', n1k, n1a, nk, na, hk⟩
    rw [Nat.zero_add, List.take_of_length_le (by omega)] at hk
    have hsz : kA.size = its.length := by
      have h1 := hk.length
      rw [Array.length_toList] at h1
      omega
    have hR : EachIs (fun v d => ∃ as, Reads s'.heap v d as) kA.toList (ns.map (kd g)) := by
      exact each_to_map (kd g) (hk.mono fun v n k => k.reads I'.hok)
    try dsimp only
    refine wpAny_bind (listItems_at nk rfl ?_)
    refine PySem.W.keyH_end (κ := dataKind s'.heap (ns.map (kd g))) (h₁ := hidT s'.heap (fun b => if b = kS then some (.tbl #[]) else none)) (fun b o _ e => (of_hidT e).1) ?_ nk na hka (SortsAt.data (s := s') hR (kd_alike g ns) (kd_sortable g ns) (fun d hd => ?_)) hsz hZ fun h3 tk3 c k3 n3 => ?_
    · cases q : (hidT s'.heap (fun b => if b = kS then some (.tbl #[]) else none)).get? kS with
      | none => rfl
      | some o =>
        have := (of_hidT q).2
        rw [if_pos rfl] at this; cases this
    · obtain ⟨n, _, rfl⟩ := List.mem_map.mp hd
      have hd : (kd g n).depth ≤ 4 := by simp [kd, PyData.depth, PyData.depthAll]
      show X.A.units + 2 + (kd g n).depth < cLine
      omega
    · have ko : KeyedOut false (ns.map (kd g)) its (sortVals (dataKind s'.heap (ns.map (kd g))) false kA.toList its) := ⟨s'.heap, kA.toList, kd_alike g ns, rfl, hR⟩
      have hE := ints_each (PySem.W.keyedOut_each (kd g) ko (each_ints hi))
      have kp : ∀ b o, b ∉ [kS, a] → s'.heap.get? b = some o → h3.get? b = some o := fun b o hb e => by
        simp only [List.mem_cons, List.not_mem_nil, or_false, not_or] at hb
        exact k3 b o hb.2 (hidT_get e (if_neg hb.1))
      have J := inv_out (t' := tk3) (ch := [kS, a]) I I' (fun b hb => by
        simp only [List.mem_cons, List.not_mem_nil, or_false] at hb
        rcases hb with rfl | rfl
        · exact n1k
        · exact n1a) (fun b hb => by
        simp only [List.mem_cons, List.not_mem_nil, or_false] at hb
        rcases hb with rfl | rfl
        · exact szk
        · exact sza) kp
      refine ⟨rfl, .ref a, _, inv_track (o := .lst ((ns.mergeSort (dataLe false (kd g))).map V.int)) I J n1a sza ⟨?_, _, _, vals_of_ints hE, n3⟩, rfl, q H1 a sm n1a⟩
      rw [List.length_map, List.length_mergeSort]
      exact hz
end
/-! ### a lambda handed to sorted -/
section
open LamX NdefX
theorem inv_pin {X : Cx} {pins : List (Addr × Obj)} {σ : L2.St} {H : Hp} {s : Shared} {f : Addr} {o : Obj} (I : Inv X pins σ H s) (e : s.heap.get? f = some o) (n : H f = none) (nf : f ∉ frs X.stack) (hd : ∀ v, o.data ≠ .cell v) (hq : ∀ es ep, o.data ≠ .dict es ep) : Inv X ((f, o) :: pins) σ H s := by
  refine ⟨I.ok, I.os, I.bare, I.base, I.loc, I.cell, I.free, I.freeC, fun p hp => ?_, I.hok, I.len⟩
  rcases List.mem_append.mp hp with z | z
  · exact I.pin p (List.mem_append_left _ z)
  · rcases List.mem_cons.mp z with rfl | z
    · refine ⟨e, n, fun z => ?_, fun z => nf ?_, hd⟩
      · obtain ⟨m, ⟨o2, es, ep, h2, d2, _⟩, _⟩ := I.loc
        have z : f = X.env.locals := z
        rw [← z, e] at h2
        obtain rfl := Option.some.inj h2
        exact hq _ _ d2
      · rcases I.ok.stk with k | ⟨k, _⟩
        · rw [k]; exact z
        · rw [k]
          unfold frs
          rw [List.filterMap_cons]
          split
          · exact z
          · exact List.mem_cons_of_mem _ z
    · exact I.pin p (List.mem_append_right _ z)
theorem inv_unpin {X : Cx} {p : Addr × Obj} {pins : List (Addr × Obj)} {σ : L2.St} {H : Hp} {s : Shared} (I : Inv X (p :: pins) σ H s) : Inv X pins σ H s :=
  ⟨I.ok, I.os, I.bare, I.base, I.loc, I.cell, I.free, I.freeC, fun q hq => I.pin q (by
    rcases List.mem_append.mp hq with z | z
    · exact List.mem_append_left _ z
    · exact List.mem_append_right _ (List.mem_cons_of_mem _ z)), I.hok, I.len⟩
/-- a lambda's words -/
abbrev lamNF (q : Str) (params : Arguments) (scope : Scope) (cl : List (Str × Addr)) (c' : Addr) : NF := ⟨"<lambda>", q, params, [], scope, cl, c'⟩
/-- a lambda is called -/
theorem lam_run {P : Program} {w : World} {K : PySem.W.Frag} {mg : Str → Option Value} {base : Heap} {CX : CXT} {k : Nat} {f c' : Addr} {q : Str} {params : Arguments} {body : Expr} {scope : Scope} {cl : List (Str × Addr)} {pm ctv : Value} {N ps fr : List Str} {A : Around} {outer : List Env} {s : Shared} {H : Hp} {us : List Value} {vs : List V} {ws : List (Option V)} {Q : VK} {E : XK} {tb : TE}
    (S : NScope N ps fr scope) (hr : Room (k + 1) A) (e0 : Env0 P w K mg base A outer s H) (hf : s.heap.get? f = some (PySem.W.kla_obj "<lambda>" q params body scope cl pm c' ctv)) (hc : H c' = some (CodeO c' q)) (C : CellsAt cl fr ws s.heap H) (r : Vals vs us) (hl : vs.length = ps.length)
    (hbind : bindArgs (PySem.W.kla_fn "<lambda>" q params body scope cl pm (.ref c') ctv) ⟨us, []⟩ = pure (ps.zip us))
    (hbody : Room k (A.deeper (envF (lamNF q params scope cl c') f s.heap.objs.size)) → PE (ncx CX P w K mg base N (lamNF q params scope cl c') f A outer s H E) body tb) (h : tb (startF N vs ws) H Q) :
    codeAny (model P w) A (.call (.ref f) ⟨us, []⟩) (CR CX outer P w H s Q E) s := by
  have lim : s.heap.NoLimit := e0.mod.nolimit.keeps fun b o e => (e0.bs b o e).1
  refine PySem.W.kla_callFunE hr.depth hf rfl S.co S.gen rfl (codeO_at e0.hok hc) ?_
  rw [hbind]
  refine wpAny_pure (wpAny_newFunctionEnv S.nocell (fun ⟨n, _⟩ hy => S.par n (List.of_mem_zip hy).1) (fun h₁ hns hsb => ⟨lim.fresh _ hsb, ?_⟩) S.kind)
  show codeAny _ _ (.expr body (envF (lamNF q params scope cl c') f s.heap.objs.size)) _ _
  have kp : ∀ b o, s.heap.get? b = some o → h₁.get? b = some o := fun b o e => hsb.extBut b o (Nat.ne_of_lt (Heap.lt_size e)) (Heap.get?_push_of_some _ e)
  have I : Inv (ncx CX P w K mg base N (lamNF q params scope cl c') f A outer s H E) [] (startF N vs ws) H { s with heap := h₁, toks := s.toks + (ps.zip us).length } := inv_startN (F := lamNF q params scope cl c') S hr.hd e0 hl r C hns kp
  refine PySem.W.kla_codeExpr (wpAny_mono ((hbody (hr.deeper _)).run [] _ _ H Q I h) (fun v s' hq => ?_) fun e s' hq => hq)
  obtain ⟨w', H', J', rv, q⟩ := hq
  exact ⟨w', H', J'.os, J'.bare, J'.base, J'.hok, rv, q⟩
theorem passN {P : Program} {w : World} {K : PySem.W.Frag} {mg : Str → Option Value} {base : Heap} {N : List Str} {F : NF} {f : Addr} {A : Around} {outer : List Env} {s : Shared} {H : Hp} {E : XK} : Passes (L2.CX P w) (ncx (L2.CX P w) P w K mg base N F f A outer s H E) E := passes_call (takes_of rfl rfl rfl rfl) fun _ _ _ _ h => h
theorem ndefB_ok {sc nsc : Scope} {fr : List Str} (h : NdefX.ndefB sc nsc fr = true) : (∀ y ∈ nsc.names, y.2 = .free → sc.names.lookup y.1 = some .cell ∨ sc.names.lookup y.1 = some .free) ∧ ∀ y ∈ fr, (y, NameKind.free) ∈ nsc.names := by
  unfold NdefX.ndefB at h
  simp only [Bool.and_eq_true, Bool.or_eq_true, Bool.not_eq_true', decide_eq_true_eq, decide_eq_false_iff_not, List.all_eq_true] at h
  refine ⟨fun y hy e => ?_, h.2⟩
  rcases h.1 y hy with (z | z) | z
  · exact absurd e z
  · exact .inl z
  · exact .inr z
/-- sorted(e, key=lambda x: ..) of ints, by pairs of ints -/
def tSortLam (K : PySem.W.Frag) (T : List (Addr × Str)) (N : List Str) (js : List Nat) (te tb : TE) : TE := fun σ H Q => te σ H fun v H1 => ∃ (l : Addr) (ns : List Int) (g : Int → Int × Int), v = .ref l ∧ Tabs T H1 ∧ ∀ H2, ExtN H1 H2 → Tabs T H2 →
  SqL K H2 l (ns.map V.int) ∧ (∀ n ∈ ns, ∀ H3, Same H2 H3 → tb (startF N [.int n] (js.map (slotAt σ))) H3 fun v H4 => Same H3 H4 ∧ ∃ p, v = .ref p ∧ H4 p = some (.tup [.int (g n).1, .int (g n).2])) ∧
  ∀ H3 p, Same H2 H3 → H3 p = none → Q (.ref p) (upd H3 p (.lst ((ns.mergeSort (PySem.W.dataLe false (kd g))).map V.int)))
theorem pe_sortLam {X : Cx} {T : List (Addr × Str)} {c P : Addr} {k : Nat} {e : Expr} {te tb : TE} {params : Arguments} {body : Expr} {scope : Scope} {x : Str} {N fr : List Str} {js : List Nat} {p lpos kpos pos : Pos}
    (hg : Gl X "sorted") (hm : X.mg "sorted" = none) (ha : PA X [e] (tCons te tNil)) (hr : Room (k + 4) X.A) (TB : TabB X.base X.mg c P) (hcode : X.env.code = .ref c) (hmT : (P, X.env.qual ++ "<lambda>") ∈ T) (hu : ∀ p ∈ T, p.1 = P → p.2 = X.env.qual ++ "<lambda>")
    (S : NScope N [x] fr scope) (hB : NdefX.ndefB X.env.scope scope fr = true) (hjs : js.map (fun j => X.N[j]?) = fr.map some)
    (hdef : defaultsOf params X.env = ([], [])) (hbind : ∀ (q : Str) (cl : List (Str × Addr)) (pm cv ctv u : Value), bindArgs (PySem.W.kla_fn "<lambda>" q params body scope cl pm cv ctv) ⟨[u], []⟩ = pure ([x].zip [u]))
    (hbody : ∀ (A : Around) (outer : List Env) (s : Shared) (H : Hp) (f : Addr) (q : Str) (cl : List (Str × Addr)) (c' : Addr), Room k (A.deeper (envF (lamNF q params scope cl c') f s.heap.objs.size)) → PE (ncx (L2.CX X.prog X.w) X.prog X.w X.K X.mg X.base N (lamNF q params scope cl c') f A outer s H (fun _ _ _ => False)) body tb)
    (hst : backTo pos (starEach [e] X.env) = (false, eval e X.env) :: backTo pos (starEach [] X.env) := by rfl) (hpl : (backTo pos (starEach [e] X.env)).any (·.1) = false := by rfl)
    (hall : (backToKw pos (keywordEach [⟨some "key", .Lambda params body scope lpos, kpos⟩] X.env)).all (·.1.isSome) = true := by rfl) (hnone : (backToKw pos (keywordEach [⟨some "key", .Lambda params body scope lpos, kpos⟩] X.env)).any (·.1.isNone) = false := by rfl) :
    PE X (.Call (.Name "sorted" p) [e] [⟨some "key", .Lambda params body scope lpos, kpos⟩] pos) (tSortLam X.K T N js te tb) := by
  obtain ⟨hfree, hfr⟩ := ndefB_ok hB
  refine ⟨fun pins s σ H Q I h => ?_⟩
  refine wpAny_Call_Name_kw (ld_blt I hg hm rfl ?_ (by decide) (by decide))
  let R0 : List V → Hp → Prop := fun vs H1 => match vs with
    | [v] => ∃ (l : Addr) (ns : List Int) (g : Int → Int × Int), v = .ref l ∧ Tabs T H1 ∧ ∀ H2, ExtN H1 H2 → Tabs T H2 →
      SqL X.K H2 l (ns.map V.int) ∧ (∀ n ∈ ns, ∀ H3, Same H2 H3 → tb (startF N [.int n] (js.map (slotAt σ))) H3 fun v H4 => Same H3 H4 ∧ ∃ p, v = .ref p ∧ H4 p = some (.tup [.int (g n).1, .int (g n).2])) ∧
      ∀ H3 p, Same H2 H3 → H3 p = none → Q (.ref p) (upd H3 p (.lst ((ns.mergeSort (PySem.W.dataLe false (kd g))).map V.int)))
    | _ => False
  refine PyProof.Rows.callWith_kw (thn (ha.run pos pins s σ H R0 I h) fun us s1 ⟨vs, H1, I1, r1, q1⟩ => ?_) hst hpl hall hnone
  obtain ⟨v, l, ns, g, rfl, rfl, hT, q⟩ : ∃ (v : V) (l : Addr) (ns : List Int) (g : Int → Int × Int), vs = [v] ∧ v = .ref l ∧ Tabs T H1 ∧ ∀ H2, ExtN H1 H2 → Tabs T H2 →
      SqL X.K H2 l (ns.map V.int) ∧ (∀ n ∈ ns, ∀ H3, Same H2 H3 → tb (startF N [.int n] (js.map (slotAt σ))) H3 fun v H4 => Same H3 H4 ∧ ∃ p, v = .ref p ∧ H4 p = some (.tup [.int (g n).1, .int (g n).2])) ∧
      ∀ H3 p, Same H2 H3 → H3 p = none → Q (.ref p) (upd H3 p (.lst ((ns.mergeSort (PySem.W.dataLe false (kd g))).map V.int))) := by
    match vs, q1 with
    | [v], ⟨l, ns, g, e, hT, q⟩ => exact ⟨v, l, ns, g, rfl, e, hT, q⟩
  obtain rfl := Vals.ref1 r1
  have hfree2 : ∀ y ∈ scope.names, y.2 = .free → ∃ c, X.env.cells.lookup y.1 = some c := fun y hy e => (hfree y hy e).elim (fun z => I1.ok.has _ (.inl z)) fun z => I1.ok.has _ (.inr z)
  refine PyProof.Rows.kwAll_cons (lam_make2 I1 TB hcode hmT hu hT hdef hfree2 fun f c' pm ctv H2 s2 I2 eN T2 hf hfn hfr2 hco => PyProof.Rows.kwAll_nil ?_)
  obtain ⟨hsq, hturn, hq⟩ := q H2 eN T2
  have I2' := inv_pin I2 hf hfn hfr2 (fun v z => by cases z) (fun es ep z => by cases z)
  show wpAny (model X.prog X.w) X.A (call (.builtin "sorted") [.ref l] [(Str.ofString "key", .ref f)]) _ _ s2
  refine wpAny_mono (sortK_run (g := g) I2' hsq hr.units (fun n t H3 s3 hn sm I3 => ?_) hq) (fun v s' ⟨v', H', J, r, q⟩ => ⟨v', H', inv_unpin J, r, q⟩) fun _ _ e => e
  have hf3 := (I3.pin (f, _) (List.mem_append_right _ List.mem_cons_self)).1
  have hr3 : Room (k + 1) X.A.in1.in1 := (Room.mono hr (by omega) : Room (k + 3) X.A).in1.in1
  refine wpAny_call (codeAny_mono (lam_run (CX := L2.CX X.prog X.w) (E := fun _ _ _ => False) (vs := [.int n]) (us := [.int n t]) S hr3 I3.env0.in1.in1 hf3 (sm _ _ hco) (cells_of I3 (Caps.made I3.ok hfree hfr hjs)) (.cons ⟨t, rfl⟩ .nil) rfl (hbind _ _ _ _ _ _) (fun hr' => hbody _ _ _ _ _ _ _ _ hr') (hturn n hn H3 sm)) fun r s' hq => ?_)
  cases r with
  | error e =>
    obtain ⟨_, _, _, _, _, _, _, _, _, _, _, _, z⟩ := hq
    exact z.elim
  | ok fl =>
    cases fl with
    | ret u => exact hq
    | next => exact False.elim hq
    | brk => exact False.elim hq
    | cont => exact False.elim hq
end
theorem z_sortLam {K : PySem.W.Frag} {T : List (Addr × Str)} {N : List Str} {js : List Nat} {te tb : TE} {σ : L2.St} {H : Hp} {Q : VK} (h : te σ H fun v H1 => ∃ (l : Addr) (ns : List Int) (g : Int → Int × Int), v = .ref l ∧ LamX.Tabs T H1 ∧ ∀ H2, LamX.ExtN H1 H2 → LamX.Tabs T H2 →
  SqL K H2 l (ns.map V.int) ∧ (∀ n ∈ ns, ∀ H3, Same H2 H3 → tb (NdefX.startF N [.int n] (js.map (NdefX.slotAt σ))) H3 fun v H4 => Same H3 H4 ∧ ∃ p, v = .ref p ∧ H4 p = some (.tup [.int (g n).1, .int (g n).2])) ∧
  ∀ H3 p, Same H2 H3 → H3 p = none → Q (.ref p) (upd H3 p (.lst ((ns.mergeSort (PySem.W.dataLe false (kd g))).map V.int)))) : tSortLam K T N js te tb σ H Q := h
/-! a list != []; dicts of ints alone -/
def rNeNilK (K : PySem.W.Frag) : R2 := fun x y H Q => ∃ a b xs, x = .ref a ∧ y = .ref b ∧ SqL K H a xs ∧ SqL K H b [] ∧ Q (.bl (!decide (xs.length = 0))) H
theorem k_neNilK {X : Cx} (K : PySem.W.Frag) (hu : X.A.units + 1 < cLine) (hK : X.K = K := by rfl) : OpR X (compareOp .NotEq) (rNeNilK K) := by
  subst hK
  intro pins s σ H x y v u Q I rx ry h
  obtain ⟨a, b, xs, rfl, rfl, ha, hb, q⟩ := h
  cases (show v = Value.ref a from rx)
  cases (show u = Value.ref b from ry)
  obtain ⟨us, r1, p1, _⟩ := I.list ha
  obtain ⟨ws, r2, p2, _⟩ := I.list hb
  have hw : ws.toArray.size = 0 := by rw [List.size_toArray, ← r2.length]; rfl
  have hx : us.toArray.size = xs.length := by rw [List.size_toArray, ← r1.length]
  by_cases e : xs.length = 0
  · rw [decide_eq_true e] at q
    refine SeqAt.RcNeAt.lists (e := fun _ => true) p1.isList p2.isList (by rw [hw, hx, e]) (by omega) (fun j h1 h2 => absurd h2 (by rw [hw]; omega)) X.prog X.w X.xe _ ⟨.bl false, H, I, ?_, q⟩
    rw [hx, e]
    rfl
  · rw [decide_eq_false e] at q
    exact SeqAt.RcNeAt.lists_lengths p1.isList p2.isList (by rw [hw, hx]; simpa using e) (by omega) X.prog X.w X.xe _ ⟨.bl true, H, I, rfl, q⟩
def KeysAt (H : Hp) (a : Addr) (ks : List Int) : Prop := ∃ kvs : List (L2.Key × V), H a = some (.dK kvs) ∧ kvs.map (·.1) = ks.map Sum.inl
theorem valV_keys {kvs : List (L2.Key × V)} {ks : List Int} (e : kvs.map (·.1) = ks.map Sum.inl) (k : Int) : (valV kvs (.inl k)).isSome = decide (k ∈ ks) := by
  rw [← valV_any]
  have e1 : (kvs.any fun kv => decide (kv.1 = Sum.inl k)) = ((kvs.map (·.1)).any fun x => decide (x = Sum.inl k)) := by rw [List.any_map]; rfl
  rw [e1, e, List.any_map]
  rw [Bool.eq_iff_iff, List.any_eq_true, decide_eq_true_eq]
  constructor
  · rintro ⟨n, hn, h⟩
    have h : (Sum.inl n : L2.Key) = Sum.inl k := of_decide_eq_true h
    injection h with h
    rw [← h]; exact hn
  · exact fun h => ⟨k, h, by simp⟩
theorem KeysAt.get {H : Hp} {a : Addr} {ks : List Int} (h : KeysAt H a ks) (k : Int) : ∃ o, DGet H a (.int k) o ∧ o.isSome = decide (k ∈ ks) := by
  obtain ⟨kvs, e, ek⟩ := h
  exact ⟨_, DGet.k (k := .inl k) e, valV_keys ek k⟩
theorem KeysAt.put {H : Hp} {a : Addr} {ks : List Int} (h : KeysAt H a ks) (k : Int) (v : V) (hl : ks.length < sizeLine) : ∃ H' o, DPut H a (.int k) v H' ∧ H' = upd H a o ∧ KeysAt H' a (if k ∈ ks then ks else ks ++ [k]) := by
  obtain ⟨kvs, e, ek⟩ := h
  have ll : kvs.length = ks.length := by have := congrArg List.length ek; simpa using this
  refine ⟨_, _, DPut.k (k := .inl k) e (by omega), rfl, _, upd_same, ?_⟩
  have hv := valV_keys ek k
  unfold putK
  rw [valV_any, hv]
  by_cases c : k ∈ ks
  · rw [decide_eq_true c, if_pos rfl, if_pos c, List.map_map, ← ek]
    apply List.map_congr_left
    intro kv _
    show (if kv.1 = Sum.inl k then (kv.1, v) else kv).1 = kv.1
    split <;> rfl
  · rw [decide_eq_false c, if_neg (by decide), if_neg c, List.map_append, List.map_append, ek]; rfl
theorem KeysAt.keep {H H' : Hp} {a : Addr} {ks : List Int} (h : KeysAt H a ks) (k : ∀ o, H a = some o → H' a = some o) : KeysAt H' a ks := let ⟨kvs, e, ek⟩ := h; ⟨kvs, k _ e, ek⟩
theorem KeysAt.some {H : Hp} {a : Addr} {ks : List Int} (h : KeysAt H a ks) : ∃ kvs, H a = Option.some (.dK kvs) := let ⟨kvs, e, _⟩ := h; ⟨kvs, e⟩
theorem KeysAt.list {H : Hp} {a : Addr} {ks : List Int} (h : KeysAt H a ks) : ∃ kvs : List (L2.Key × V), H a = Option.some (.dK kvs) ∧ (kvs.map fun kv => kV kv.1) = ks.map V.int := by
  obtain ⟨kvs, e, ek⟩ := h
  refine ⟨kvs, e, ?_⟩
  have := congrArg (List.map kV) ek
  rw [List.map_map, List.map_map] at this
  exact this
/-- a def that makes code objects: its own code object is known -/
theorem Fk.mkC {P : Program} {w : World} {K : PySem.W.Frag} {mg : Str → Option Value} {base : Heap} {k : Nat} {ps : List Str} {sp : Sp} {at_ : Str × Option Str} {x qual : Str} {params : Arguments} {body : List Stmt} {scope : Scope} {N : List Str} (F : ∃ fd, FunD K x qual params body scope [] [] (He.fAd K at_) fd) (S : FnScope N ps scope)
    (hb : ∀ (kV doc pm : Value) (an : Option Addr) (cdv ct : Value) (us : List Value), us.length = ps.length → bindArgs (PySem.W.fnOf x qual params body scope .none kV doc pm an cdv ct) ⟨us, []⟩ = pure (ps.zip us))
    (len : ∀ vs H Q E, sp vs H Q E → vs.length = ps.length)
    (hbody : ∀ (cdv : Value) (hcd : cdv = .ref (He.cT K at_).1) (A : Around) (outer : List Env) (s : Shared) (H : Hp) (vs : List V) (Q : VK) (E : XK), Room k (A.deeper (envOfC qual scope s.heap.objs.size (He.fAd K at_) cdv)) → sp vs H Q E →
      ∃ t, PSs (cxOf (L2.CX P w) P w K mg base N qual scope (He.fAd K at_) cdv A outer s H E) body t ∧ t { nx := fun _ H' => Q .non H', rt := Q } (start N vs) H) : Fk P w K mg base (k + 1) (He.fAd K at_) ps sp := by
  obtain ⟨fd, F⟩ := F
  refine ⟨⟨fd, ?_, F.bindsN hb⟩, F.kp⟩
  obtain ⟨oc, od, dV, kV, doc, pm, an, cdv, ct, osl, rfl, lk, hcd, _, _⟩ := F.ex
  obtain ⟨c, e⟩ := He.codeIn_ref hcd
  have e2 : He.codeOf K at_ = c := He.codeOf_eq lk (c := c) e
  exact fn_of lk hcd S len fun A outer s H vs Q E hr hsp => hbody cdv (by rw [e]; show _ = Value.ref (He.codeOf K at_); rw [e2]) A outer s H vs Q E hr hsp
end Mur
namespace Mur
open PySem hiding start
open PySem.Spec L2
open PyProof.Rows hiding St
local macro_rules | `(tactic| walk_at "y1") => `(tactic| first
  | ((with_reducible refine' z_start ?zt ?_); (case zt => repeat constructor))
  | with_reducible refine z_seq ?_ | with_reducible refine z_asg ?_ | with_reducible refine z_op ?_ | ((with_reducible refine' z_var ?zv ?_); (case zv => exact rfl)) | with_reducible refine z_c ?_
  | with_reducible refine z_cons ?_ | with_reducible refine z_nil ?_ | with_reducible refine z_addI ?_ | with_reducible refine z_I0 ?_ | with_reducible refine z_eqI ?_ | with_reducible refine z_neI ?_ | with_reducible refine z_isN ?_ | with_reducible refine z_isB ?_
  | with_reducible refine z_eqS ?_ | with_reducible refine z_neS ?_ | with_reducible refine z_tTest ?_ | with_reducible refine z_tB ?_ | with_reducible refine z_bl ?_ | with_reducible refine z_blQ ?_
  | ((with_reducible refine' z_name ?zs ?_); (case zs => repeat constructor)) | with_reducible refine z_next ?_ | with_reducible refine z_ret ?_ | with_reducible refine z_retN ?_ | with_reducible refine z_drop ?_
  | with_reducible refine z_call ?_ | with_reducible refine z_callS ?_ | with_reducible refine z_cb ?_ | with_reducible refine z_and ?_ | with_reducible refine z_or ?_ | with_reducible refine z_not ?_ | with_reducible refine z_un ?_ | with_reducible refine z_U ?_ | with_reducible refine z_tup ?_ | with_reducible refine z_lst ?_
  | with_reducible refine z_par ?_ | ((with_reducible refine' z_par2 ?za ?zb ?_); (case za => repeat constructor); (case zb => repeat constructor))
  | with_reducible refine z_andV ?_ | with_reducible refine z_orV ?_ | with_reducible refine z_notV ?_ | with_reducible refine z_ifE ?_ | with_reducible refine z_chain ?_
  | with_reducible refine z_bm ?_ | with_reducible refine z_bm0 ?_ | with_reducible refine z_fld ?_ | with_reducible refine z_sfld ?_ | with_reducible refine z_dnewT ?_ | with_reducible refine z_augS ?_ | with_reducible refine z_gSub ?_ | with_reducible refine z_ipI ?_ | with_reducible refine z_lc ?_ | with_reducible refine z_tyes ?_ | with_reducible refine z_dnotin ?_ | with_reducible refine z_din ?_ | with_reducible refine z_dget ?_ | with_reducible refine z_dput ?_ | with_reducible refine z_dnewK ?_ | with_reducible refine z_meth ?_ | with_reducible refine z_lset ?_ | with_reducible refine z_sl ?_ | with_reducible refine z_noP ?_ | with_reducible refine z_part ?_ | with_reducible refine z_dget2 ?_ | with_reducible refine z_dget1 ?_ | with_reducible refine z_dpop ?_ | with_reducible refine z_kget ?_ | with_reducible refine z_revL ?_ | with_reducible refine z_keys ?_ | with_reducible refine z_enum ?_ | with_reducible refine z_methSl ?_ | with_reducible refine z_someI ?_ | with_reducible refine z_abs ?_ | with_reducible refine z_int1 ?_ | with_reducible refine z_intB ?_
  | with_reducible refine iteT ?_ | with_reducible refine iteF ?_ | with_reducible refine z_ntrue ?_ | with_reducible refine z_nfalse ?_ | with_reducible refine z_for ?_ | with_reducible refine z_zipA ?_ | with_reducible refine z_iList ?_ | with_reducible refine z_iTup ?_ | with_reducible refine z_rng1 ?_ | with_reducible refine z_rng2 ?_ | with_reducible refine z_gCons ?_ | with_reducible refine z_gNil ?_)
local macro_rules | `(tactic| walk_at "z1") => `(tactic| first | walk_at "y1" | with_reducible refine z_if ?_)
local macro_rules | `(tactic| walk_at "y") => `(tactic| repeat walk_at "y1")
local macro_rules | `(tactic| walk_at "z") => `(tactic| repeat walk_at "z1")
local macro_rules | `(tactic| walk_at "hs") => `(tactic| repeat (first | assumption | exact upd_same | refine same_to (by assumption) ?_))
local macro_rules | `(tactic| walk_at "zn") => `(tactic| (intro p hp; generalize hH : upd _ p _ = H2; have hs2 := new_same hp hH; have he2 := new_at hH; clear hH))
local macro_rules | `(tactic| walk_at "zt") => `(tactic| (refine ⟨sz1000 (by simp), ?_⟩; walk_at "zn"))
local macro_rules | `(tactic| walk_at "zw") => `(tactic| simp only [L2.wipe, List.map_cons, List.map_nil, List.set_cons_zero, List.set_cons_succ])
def top (i : Nat) : Stmt := PySem.Challenge.pw_murrine_k14_needed_beside_some.main.body.getD i (.Pass ⟨0, 0, 0, 0⟩)
abbrev sFaces___init__ : Stmt := inClass (top 17) 0
abbrev s_law_whole : Stmt := top 25
abbrev s_law_like : Stmt := top 26
abbrev sFaces_stored : Stmt := inClass (top 17) 1
abbrev sFaces_plain : Stmt := inClass (top 17) 3
abbrev s_law_row : Stmt := top 19
abbrev s_law_picked : Stmt := top 20
abbrev s_law_quarters : Stmt := top 21
abbrev s_law_deep : Stmt := top 22
abbrev sFaces_need : Stmt := inClass (top 17) 2
abbrev sarea : Stmt := top 12
abbrev sFaces_four : Stmt := inClass (top 17) 4
abbrev sarranged : Stmt := top 13
abbrev sFaces_whirled : Stmt := inClass (top 17) 12
abbrev sFaces_turned : Stmt := inClass (top 17) 11
abbrev s_law_nodes : Stmt := top 23
abbrev s_law_cell : Stmt := top 24
abbrev sFaces_depth : Stmt := inClass (top 17) 5
abbrev sFaces_kind : Stmt := inClass (top 17) 13
abbrev sFaces_quarters : Stmt := inClass (top 17) 6
abbrev ssorted_kinds : Stmt := top 2
abbrev sneeded : Stmt := top 3
abbrev spart_kinds : Stmt := top 4
abbrev s_law_due : Stmt := top 27
abbrev slaw : Stmt := top 28
structure Tx (w : World) (K : PySem.W.Frag) (mg : Str → Option Value) : Prop where
  g_law_whole : mg "_law_whole" = some (.ref (He.ga K "_law_whole"))
  g_law_like : mg "_law_like" = some (.ref (He.ga K "_law_like"))
  g_law_row : mg "_law_row" = some (.ref (He.ga K "_law_row"))
  g_law_picked : mg "_law_picked" = some (.ref (He.ga K "_law_picked"))
  g_law_quarters : mg "_law_quarters" = some (.ref (He.ga K "_law_quarters"))
  g_law_deep : mg "_law_deep" = some (.ref (He.ga K "_law_deep"))
  garea : mg "area" = some (.ref (He.ga K "area"))
  garranged : mg "arranged" = some (.ref (He.ga K "arranged"))
  g_law_nodes : mg "_law_nodes" = some (.ref (He.ga K "_law_nodes"))
  g_law_cell : mg "_law_cell" = some (.ref (He.ga K "_law_cell"))
  gsorted_kinds : mg "sorted_kinds" = some (.ref (He.ga K "sorted_kinds"))
  gneeded : mg "needed" = some (.ref (He.ga K "needed"))
  gpart_kinds : mg "part_kinds" = some (.ref (He.ga K "part_kinds"))
  g_law_due : mg "_law_due" = some (.ref (He.ga K "_law_due"))
  glaw : mg "law" = some (.ref (He.ga K "law"))
  gGlassError : mg "GlassError" = some (.ref (He.ga K "GlassError"))
  eGlassError : PySem.W.excIn K (He.ga K "GlassError") He.veBase "ValueError.__new__" = true ∧ PySem.W.keepIn K (.ref (He.ga K "GlassError")) = true ∧ PySem.W.subIn K (.ref (He.ga K "GlassError")) (.type "BaseException") = some true ∧ PySem.W.typeIn K (.ref (He.ga K "GlassError")) = some (.type "type")
  gBadColour : mg "BadColour" = some (.ref (He.ga K "BadColour"))
  eBadColour : PySem.W.excIn K (He.ga K "BadColour") He.veBase "ValueError.__new__" = true ∧ PySem.W.keepIn K (.ref (He.ga K "BadColour")) = true ∧ PySem.W.subIn K (.ref (He.ga K "BadColour")) (.type "BaseException") = some true ∧ PySem.W.typeIn K (.ref (He.ga K "BadColour")) = some (.type "type")
  gNoFace : mg "NoFace" = some (.ref (He.ga K "NoFace"))
  eNoFace : PySem.W.excIn K (He.ga K "NoFace") He.veBase "ValueError.__new__" = true ∧ PySem.W.keepIn K (.ref (He.ga K "NoFace")) = true ∧ PySem.W.subIn K (.ref (He.ga K "NoFace")) (.type "BaseException") = some true ∧ PySem.W.typeIn K (.ref (He.ga K "NoFace")) = some (.type "type")
  gTooDeep : mg "TooDeep" = some (.ref (He.ga K "TooDeep"))
  eTooDeep : PySem.W.excIn K (He.ga K "TooDeep") He.veBase "ValueError.__new__" = true ∧ PySem.W.keepIn K (.ref (He.ga K "TooDeep")) = true ∧ PySem.W.subIn K (.ref (He.ga K "TooDeep")) (.type "BaseException") = some true ∧ PySem.W.typeIn K (.ref (He.ga K "TooDeep")) = some (.type "type")
  gBadTurn : mg "BadTurn" = some (.ref (He.ga K "BadTurn"))
  eBadTurn : PySem.W.excIn K (He.ga K "BadTurn") He.veBase "ValueError.__new__" = true ∧ PySem.W.keepIn K (.ref (He.ga K "BadTurn")) = true ∧ PySem.W.subIn K (.ref (He.ga K "BadTurn")) (.type "BaseException") = some true ∧ PySem.W.typeIn K (.ref (He.ga K "BadTurn")) = some (.type "type")
  gFaces : mg "Faces" = some (.ref (He.ga K "Faces"))
  cFaces : Cls K (He.ga K "Faces")
  kFaces : Mk K (He.ga K "Faces") (He.ma K (He.ga K "Faces") "__init__")
  mFaces_stored : Meth K (He.ga K "Faces") "stored" (He.ma K (He.ga K "Faces") "stored")
  mFaces_plain : Meth K (He.ga K "Faces") "plain" (He.ma K (He.ga K "Faces") "plain")
  mFaces_need : Meth K (He.ga K "Faces") "need" (He.ma K (He.ga K "Faces") "need")
  mFaces_four : Meth K (He.ga K "Faces") "four" (He.ma K (He.ga K "Faces") "four")
  mFaces_whirled : Meth K (He.ga K "Faces") "whirled" (He.ma K (He.ga K "Faces") "whirled")
  mFaces_turned : Meth K (He.ga K "Faces") "turned" (He.ma K (He.ga K "Faces") "turned")
  mFaces_depth : Meth K (He.ga K "Faces") "depth" (He.ma K (He.ga K "Faces") "depth")
  mFaces_kind : Meth K (He.ga K "Faces") "kind" (He.ma K (He.ga K "Faces") "kind")
  mFaces_quarters : Meth K (He.ga K "Faces") "quarters" (He.ma K (He.ga K "Faces") "quarters")
  aFaces_nodes : NoAttr K (He.ga K "Faces") "nodes"
  aFaces_depths : NoAttr K (He.ga K "Faces") "depths"
  aFaces_sums : NoAttr K (He.ga K "Faces") "sums"
  aFaces_known : NoAttr K (He.ga K "Faces") "known"
  aFaces_whirls : NoAttr K (He.ga K "Faces") "whirls"
  uValueError : mg "ValueError" = none
  uabs : mg "abs" = none
  ubool : mg "bool" = none
  uint : mg "int" = none
  uisinstance : mg "isinstance" = none
  ulen : mg "len" = none
  ulist : mg "list" = none
  umax : mg "max" = none
  umin : mg "min" = none
  urange : mg "range" = none
  usorted : mg "sorted" = none
  ustr : mg "str" = none
  utuple : mg "tuple" = none
  uzip : mg "zip" = none
  iCOLOURS : ∃ t, mg "COLOURS" = some (.int 10 t)
  iDEEPEST : ∃ t, mg "DEEPEST" = some (.int 12 t)
  fFaces___init__ : ∃ fd, FunD K "__init__" "Faces.__init__" (defArgs sFaces___init__) (defBody sFaces___init__) (defScope sFaces___init__) [] [] (He.ma K (He.ga K "Faces") "__init__") fd
  f_law_whole : ∃ fd, FunD K "_law_whole" "_law_whole" (defArgs s_law_whole) (defBody s_law_whole) (defScope s_law_whole) [] [] (He.ga K "_law_whole") fd
  f_law_like : ∃ fd, FunD K "_law_like" "_law_like" (defArgs s_law_like) (defBody s_law_like) (defScope s_law_like) [] [] (He.ga K "_law_like") fd
  fFaces_stored : ∃ fd, FunD K "stored" "Faces.stored" (defArgs sFaces_stored) (defBody sFaces_stored) (defScope sFaces_stored) [] [] (He.ma K (He.ga K "Faces") "stored") fd
  fFaces_plain : ∃ fd, FunD K "plain" "Faces.plain" (defArgs sFaces_plain) (defBody sFaces_plain) (defScope sFaces_plain) [] [] (He.ma K (He.ga K "Faces") "plain") fd
  f_law_row : ∃ fd, FunD K "_law_row" "_law_row" (defArgs s_law_row) (defBody s_law_row) (defScope s_law_row) [] [] (He.ga K "_law_row") fd
  f_law_picked : ∃ fd, FunD K "_law_picked" "_law_picked" (defArgs s_law_picked) (defBody s_law_picked) (defScope s_law_picked) [] [] (He.ga K "_law_picked") fd
  f_law_quarters : ∃ fd, FunD K "_law_quarters" "_law_quarters" (defArgs s_law_quarters) (defBody s_law_quarters) (defScope s_law_quarters) [] [] (He.ga K "_law_quarters") fd
  f_law_deep : ∃ fd, FunD K "_law_deep" "_law_deep" (defArgs s_law_deep) (defBody s_law_deep) (defScope s_law_deep) [] [] (He.ga K "_law_deep") fd
  fFaces_need : ∃ fd, FunD K "need" "Faces.need" (defArgs sFaces_need) (defBody sFaces_need) (defScope sFaces_need) [] [] (He.ma K (He.ga K "Faces") "need") fd
  farea : ∃ fd, FunD K "area" "area" (defArgs sarea) (defBody sarea) (defScope sarea) [] [] (He.ga K "area") fd
  fFaces_four : ∃ fd, FunD K "four" "Faces.four" (defArgs sFaces_four) (defBody sFaces_four) (defScope sFaces_four) [] [] (He.ma K (He.ga K "Faces") "four") fd
  farranged : ∃ fd, FunD K "arranged" "arranged" (defArgs sarranged) (defBody sarranged) (defScope sarranged) [] [] (He.ga K "arranged") fd
  fFaces_whirled : ∃ fd, FunD K "whirled" "Faces.whirled" (defArgs sFaces_whirled) (defBody sFaces_whirled) (defScope sFaces_whirled) [] [] (He.ma K (He.ga K "Faces") "whirled") fd
  fFaces_turned : ∃ fd, FunD K "turned" "Faces.turned" (defArgs sFaces_turned) (defBody sFaces_turned) (defScope sFaces_turned) [] [] (He.ma K (He.ga K "Faces") "turned") fd
  f_law_nodes : ∃ fd, FunD K "_law_nodes" "_law_nodes" (defArgs s_law_nodes) (defBody s_law_nodes) (defScope s_law_nodes) [] [] (He.ga K "_law_nodes") fd
  f_law_cell : ∃ fd, FunD K "_law_cell" "_law_cell" (defArgs s_law_cell) (defBody s_law_cell) (defScope s_law_cell) [] [] (He.ga K "_law_cell") fd
  fFaces_depth : ∃ fd, FunD K "depth" "Faces.depth" (defArgs sFaces_depth) (defBody sFaces_depth) (defScope sFaces_depth) [] [] (He.ma K (He.ga K "Faces") "depth") fd
  fFaces_kind : ∃ fd, FunD K "kind" "Faces.kind" (defArgs sFaces_kind) (defBody sFaces_kind) (defScope sFaces_kind) [] [] (He.ma K (He.ga K "Faces") "kind") fd
  fFaces_quarters : ∃ fd, FunD K "quarters" "Faces.quarters" (defArgs sFaces_quarters) (defBody sFaces_quarters) (defScope sFaces_quarters) [] [] (He.ma K (He.ga K "Faces") "quarters") fd
  fsorted_kinds : ∃ fd, FunD K "sorted_kinds" "sorted_kinds" (defArgs ssorted_kinds) (defBody ssorted_kinds) (defScope ssorted_kinds) [] [] (He.ga K "sorted_kinds") fd
  fneeded : ∃ fd, FunD K "needed" "needed" (defArgs sneeded) (defBody sneeded) (defScope sneeded) [] [] (He.ga K "needed") fd
  fpart_kinds : ∃ fd, FunD K "part_kinds" "part_kinds" (defArgs spart_kinds) (defBody spart_kinds) (defScope spart_kinds) [] [] (He.ga K "part_kinds") fd
  f_law_due : ∃ fd, FunD K "_law_due" "_law_due" (defArgs s_law_due) (defBody s_law_due) (defScope s_law_due) [] [] (He.ga K "_law_due") fd
  flaw : ∃ fd, FunD K "law" "law" (defArgs slaw) (defBody slaw) (defScope slaw) [] [] (He.ga K "law") fd
structure Tb (w : World) (K : PySem.W.Frag) (mg : Str → Option Value) (base : Heap) : Prop extends Tx w K mg where
  b0 : LamX.TabB base mg (He.cT K ("sorted_kinds", none)).1 (He.cT K ("sorted_kinds", none)).2
abbrev tT (K : PySem.W.Frag) : List (Addr × Str) := [((He.cT K ("sorted_kinds", none)).2, "sorted_kinds.<locals>.<lambda>")]
def spLaw (K : PySem.W.Frag) : Sp := fun vs H Q _ => ∃ (a : Addr) (ns : List Int), vs = [.ref a] ∧ SqL K H a (ns.map V.int) ∧ ns.length ≤ 63 ∧ (∀ z ∈ ns, Builtin.Int.intBits z ≤ 1048576) ∧ H (He.cT K ("sorted_kinds", none)).2 = some (.tbl #[]) ∧  ∀ H', Q (.bl true) H'

def dFaces___init__ : He.DefD := ⟨("Faces", some "__init__"), "__init__", "Faces.__init__", defArgs sFaces___init__, defBody sFaces___init__, defScope sFaces___init__, [], []⟩
def d_law_whole : He.DefD := ⟨("_law_whole", none), "_law_whole", "_law_whole", defArgs s_law_whole, defBody s_law_whole, defScope s_law_whole, [], []⟩
def d_law_like : He.DefD := ⟨("_law_like", none), "_law_like", "_law_like", defArgs s_law_like, defBody s_law_like, defScope s_law_like, [], []⟩
def dFaces_stored : He.DefD := ⟨("Faces", some "stored"), "stored", "Faces.stored", defArgs sFaces_stored, defBody sFaces_stored, defScope sFaces_stored, [], []⟩
def dFaces_plain : He.DefD := ⟨("Faces", some "plain"), "plain", "Faces.plain", defArgs sFaces_plain, defBody sFaces_plain, defScope sFaces_plain, [], []⟩
def d_law_row : He.DefD := ⟨("_law_row", none), "_law_row", "_law_row", defArgs s_law_row, defBody s_law_row, defScope s_law_row, [], []⟩
def d_law_picked : He.DefD := ⟨("_law_picked", none), "_law_picked", "_law_picked", defArgs s_law_picked, defBody s_law_picked, defScope s_law_picked, [], []⟩
def d_law_quarters : He.DefD := ⟨("_law_quarters", none), "_law_quarters", "_law_quarters", defArgs s_law_quarters, defBody s_law_quarters, defScope s_law_quarters, [], []⟩
def d_law_deep : He.DefD := ⟨("_law_deep", none), "_law_deep", "_law_deep", defArgs s_law_deep, defBody s_law_deep, defScope s_law_deep, [], []⟩
def dFaces_need : He.DefD := ⟨("Faces", some "need"), "need", "Faces.need", defArgs sFaces_need, defBody sFaces_need, defScope sFaces_need, [], []⟩
def darea : He.DefD := ⟨("area", none), "area", "area", defArgs sarea, defBody sarea, defScope sarea, [], []⟩
def dFaces_four : He.DefD := ⟨("Faces", some "four"), "four", "Faces.four", defArgs sFaces_four, defBody sFaces_four, defScope sFaces_four, [], []⟩
def darranged : He.DefD := ⟨("arranged", none), "arranged", "arranged", defArgs sarranged, defBody sarranged, defScope sarranged, [], []⟩
def dFaces_whirled : He.DefD := ⟨("Faces", some "whirled"), "whirled", "Faces.whirled", defArgs sFaces_whirled, defBody sFaces_whirled, defScope sFaces_whirled, [], []⟩
def dFaces_turned : He.DefD := ⟨("Faces", some "turned"), "turned", "Faces.turned", defArgs sFaces_turned, defBody sFaces_turned, defScope sFaces_turned, [], []⟩
def d_law_nodes : He.DefD := ⟨("_law_nodes", none), "_law_nodes", "_law_nodes", defArgs s_law_nodes, defBody s_law_nodes, defScope s_law_nodes, [], []⟩
def d_law_cell : He.DefD := ⟨("_law_cell", none), "_law_cell", "_law_cell", defArgs s_law_cell, defBody s_law_cell, defScope s_law_cell, [], []⟩
def dFaces_depth : He.DefD := ⟨("Faces", some "depth"), "depth", "Faces.depth", defArgs sFaces_depth, defBody sFaces_depth, defScope sFaces_depth, [], []⟩
def dFaces_kind : He.DefD := ⟨("Faces", some "kind"), "kind", "Faces.kind", defArgs sFaces_kind, defBody sFaces_kind, defScope sFaces_kind, [], []⟩
def dFaces_quarters : He.DefD := ⟨("Faces", some "quarters"), "quarters", "Faces.quarters", defArgs sFaces_quarters, defBody sFaces_quarters, defScope sFaces_quarters, [], []⟩
def dsorted_kinds : He.DefD := ⟨("sorted_kinds", none), "sorted_kinds", "sorted_kinds", defArgs ssorted_kinds, defBody ssorted_kinds, defScope ssorted_kinds, [], []⟩
def dneeded : He.DefD := ⟨("needed", none), "needed", "needed", defArgs sneeded, defBody sneeded, defScope sneeded, [], []⟩
def dpart_kinds : He.DefD := ⟨("part_kinds", none), "part_kinds", "part_kinds", defArgs spart_kinds, defBody spart_kinds, defScope spart_kinds, [], []⟩
def d_law_due : He.DefD := ⟨("_law_due", none), "_law_due", "_law_due", defArgs s_law_due, defBody s_law_due, defScope s_law_due, [], []⟩
def dlaw : He.DefD := ⟨("law", none), "law", "law", defArgs slaw, defBody slaw, defScope slaw, [], []⟩
def hfn0 : List He.DefD := [dFaces___init__, d_law_whole, d_law_like, dFaces_stored, dFaces_plain, d_law_row, d_law_picked, d_law_quarters, d_law_deep, dFaces_need, darea, dFaces_four, darranged, dFaces_whirled, dFaces_turned, d_law_nodes, d_law_cell, dFaces_depth, dFaces_kind, dFaces_quarters, dsorted_kinds, dneeded, dpart_kinds, d_law_due, dlaw]
def hfn : List He.DefD := hfn0
def hfa0 : List He.Fa := [.glo "_law_whole", .glo "_law_like", .glo "_law_row", .glo "_law_picked", .glo "_law_quarters", .glo "_law_deep", .glo "area", .glo "arranged", .glo "_law_nodes", .glo "_law_cell", .glo "sorted_kinds", .glo "needed", .glo "part_kinds", .glo "_law_due", .glo "law", .glo "GlassError", .exc "GlassError", .glo "BadColour", .exc "BadColour", .glo "NoFace", .exc "NoFace", .glo "TooDeep", .exc "TooDeep", .glo "BadTurn", .exc "BadTurn"]
def hfa1 : List He.Fa := [.glo "Faces", .cls "Faces", .mkr "Faces", .meth "Faces" "stored", .meth "Faces" "plain", .meth "Faces" "need", .meth "Faces" "four", .meth "Faces" "whirled", .meth "Faces" "turned", .meth "Faces" "depth", .meth "Faces" "kind", .meth "Faces" "quarters", .noat "Faces" "nodes", .noat "Faces" "depths", .noat "Faces" "sums", .noat "Faces" "known", .noat "Faces" "whirls", .free "ValueError", .free "abs", .free "bool", .free "int", .free "isinstance", .free "len", .free "list", .free "max"]
def hfa2 : List He.Fa := [.free "min", .free "range", .free "sorted", .free "str", .free "tuple", .free "zip", .int "COLOURS" 10, .int "DEEPEST" 12]
def hfa : List He.Fa := hfa0 ++ hfa1 ++ hfa2
def hloose0 : List Str := ["_wall", "sorted_kinds", "needed", "part_kinds", "GlassError", "BadColour", "NoFace", "TooDeep", "BadTurn", "area", "arranged", "COLOURS", "DEEPEST", "Faces", "_law_row", "_law_picked", "_law_quarters", "_law_deep", "_law_nodes", "_law_cell", "_law_whole", "_law_like", "_law_due"]
def hloose : List Str := hloose0
abbrev hR : PySem.W.OpenRow := PySem.W.OpenLaw.row PySem.Challenge.rw_murrine_k14_needed_beside_some
abbrev hTf : List He.Defn := [("sorted_kinds", none)]
abbrev hk : PySem.W.Hook := He.hookX 4 hfa hfn [] hTf (fun _ => true)
def hob (s : PySem.W.SharedT) : He.AlX := He.obsX 4 hfa hfn [] hTf (fun _ => true) (HandSHeadRun.getT s)
theorem hob_eq (s : PySem.W.SharedT) : hob s = hk.obs s.abs := He.obsX_eq (HandSHeadRun.getT_eq s)
abbrev hRun (w : World) : Prop := HandSHeadRun.RunEq hR (PySem.W.view hR.prog [28]) hk hob 8000 hloose w
theorem hrun (w : World) : hRun w := by
  intro os
  kernel_rfl
theorem tx_of {w : World} {K : PySem.W.Frag} {h : Heap} {mg : Str → Option Value} (X : K.In h) (G : h.Ns mainGlobals mg) (c : He.SaysD hfa hfn K) : Tx w K mg where
  g_law_whole := He.glo_ok X G (c.fact 0 rfl)
  g_law_like := He.glo_ok X G (c.fact 1 rfl)
  g_law_row := He.glo_ok X G (c.fact 2 rfl)
  g_law_picked := He.glo_ok X G (c.fact 3 rfl)
  g_law_quarters := He.glo_ok X G (c.fact 4 rfl)
  g_law_deep := He.glo_ok X G (c.fact 5 rfl)
  garea := He.glo_ok X G (c.fact 6 rfl)
  garranged := He.glo_ok X G (c.fact 7 rfl)
  g_law_nodes := He.glo_ok X G (c.fact 8 rfl)
  g_law_cell := He.glo_ok X G (c.fact 9 rfl)
  gsorted_kinds := He.glo_ok X G (c.fact 10 rfl)
  gneeded := He.glo_ok X G (c.fact 11 rfl)
  gpart_kinds := He.glo_ok X G (c.fact 12 rfl)
  g_law_due := He.glo_ok X G (c.fact 13 rfl)
  glaw := He.glo_ok X G (c.fact 14 rfl)
  gGlassError := He.glo_ok X G (c.fact 15 rfl)
  eGlassError := He.exc_ok (c.fact 16 rfl)
  gBadColour := He.glo_ok X G (c.fact 17 rfl)
  eBadColour := He.exc_ok (c.fact 18 rfl)
  gNoFace := He.glo_ok X G (c.fact 19 rfl)
  eNoFace := He.exc_ok (c.fact 20 rfl)
  gTooDeep := He.glo_ok X G (c.fact 21 rfl)
  eTooDeep := He.exc_ok (c.fact 22 rfl)
  gBadTurn := He.glo_ok X G (c.fact 23 rfl)
  eBadTurn := He.exc_ok (c.fact 24 rfl)
  gFaces := He.glo_ok X G (c.fact 25 rfl)
  cFaces := He.cls_ok (c.fact 26 rfl)
  kFaces := He.mkr_ok (c.fact 27 rfl)
  mFaces_stored := He.meth_ok (c.fact 28 rfl)
  mFaces_plain := He.meth_ok (c.fact 29 rfl)
  mFaces_need := He.meth_ok (c.fact 30 rfl)
  mFaces_four := He.meth_ok (c.fact 31 rfl)
  mFaces_whirled := He.meth_ok (c.fact 32 rfl)
  mFaces_turned := He.meth_ok (c.fact 33 rfl)
  mFaces_depth := He.meth_ok (c.fact 34 rfl)
  mFaces_kind := He.meth_ok (c.fact 35 rfl)
  mFaces_quarters := He.meth_ok (c.fact 36 rfl)
  aFaces_nodes := He.noat_ok (c.fact 37 rfl)
  aFaces_depths := He.noat_ok (c.fact 38 rfl)
  aFaces_sums := He.noat_ok (c.fact 39 rfl)
  aFaces_known := He.noat_ok (c.fact 40 rfl)
  aFaces_whirls := He.noat_ok (c.fact 41 rfl)
  uValueError := He.free_ok X G (c.fact 42 rfl)
  uabs := He.free_ok X G (c.fact 43 rfl)
  ubool := He.free_ok X G (c.fact 44 rfl)
  uint := He.free_ok X G (c.fact 45 rfl)
  uisinstance := He.free_ok X G (c.fact 46 rfl)
  ulen := He.free_ok X G (c.fact 47 rfl)
  ulist := He.free_ok X G (c.fact 48 rfl)
  umax := He.free_ok X G (c.fact 49 rfl)
  umin := He.free_ok X G (c.fact 50 rfl)
  urange := He.free_ok X G (c.fact 51 rfl)
  usorted := He.free_ok X G (c.fact 52 rfl)
  ustr := He.free_ok X G (c.fact 53 rfl)
  utuple := He.free_ok X G (c.fact 54 rfl)
  uzip := He.free_ok X G (c.fact 55 rfl)
  iCOLOURS := He.int_ok X G (c.fact 56 rfl)
  iDEEPEST := He.int_ok X G (c.fact 57 rfl)
  fFaces___init__ := c.def_ 0 (d := dFaces___init__) rfl
  f_law_whole := c.def_ 1 (d := d_law_whole) rfl
  f_law_like := c.def_ 2 (d := d_law_like) rfl
  fFaces_stored := c.def_ 3 (d := dFaces_stored) rfl
  fFaces_plain := c.def_ 4 (d := dFaces_plain) rfl
  f_law_row := c.def_ 5 (d := d_law_row) rfl
  f_law_picked := c.def_ 6 (d := d_law_picked) rfl
  f_law_quarters := c.def_ 7 (d := d_law_quarters) rfl
  f_law_deep := c.def_ 8 (d := d_law_deep) rfl
  fFaces_need := c.def_ 9 (d := dFaces_need) rfl
  farea := c.def_ 10 (d := darea) rfl
  fFaces_four := c.def_ 11 (d := dFaces_four) rfl
  farranged := c.def_ 12 (d := darranged) rfl
  fFaces_whirled := c.def_ 13 (d := dFaces_whirled) rfl
  fFaces_turned := c.def_ 14 (d := dFaces_turned) rfl
  f_law_nodes := c.def_ 15 (d := d_law_nodes) rfl
  f_law_cell := c.def_ 16 (d := d_law_cell) rfl
  fFaces_depth := c.def_ 17 (d := dFaces_depth) rfl
  fFaces_kind := c.def_ 18 (d := dFaces_kind) rfl
  fFaces_quarters := c.def_ 19 (d := dFaces_quarters) rfl
  fsorted_kinds := c.def_ 20 (d := dsorted_kinds) rfl
  fneeded := c.def_ 21 (d := dneeded) rfl
  fpart_kinds := c.def_ 22 (d := dpart_kinds) rfl
  f_law_due := c.def_ 23 (d := d_law_due) rfl
  flaw := c.def_ 24 (d := dlaw) rfl
def spInitF (C : Addr) : Sp := fun vs H Q _ => ∃ p dx : Addr, vs = [.ref p] ∧ H p = some (.ins C dx []) ∧ ∀ H' A D, (∀ b o, H b = some o → b ≠ p → H' b = some o) → FacesAt C H' p A D [] → (∀ b, D b → b = p ∨ H b = none) → Q .non H'
theorem z_mkFaces {C : Addr} {σ : L2.St} {H : Hp} {Q : VK} {E : XK} (k : ∀ H' p A D, Same H H' → FacesAt C H' p A D [] → (∀ b, D b → H b = none) → Q (.ref p) H') : tMake C (spInitF C) [] E tNil σ H Q := by
  intro x dx hx hdx hne
  refine ⟨x, dx, rfl, upd_same, fun H' A D h1 h2 h3 => ⟨rfl, k H' x A D (fun b o e => h1 b o (by rw [upd_ne (ne_of_none e hx), upd_ne (ne_of_none e hdx)]; exact e) (ne_of_none e hx)) h2 fun b hb => ?_⟩⟩
  rcases h3 b hb with rfl | z
  · exact hx
  · by_cases e1 : b = x
    · rw [e1]; exact hx
    · rw [upd_ne e1] at z
      by_cases e2 : b = dx
      · rw [e2]; exact hdx
      · rw [upd_ne e2] at z; exact z
abbrev nFaces___init__ : List Str := ["self"]
abbrev pFaces___init__ : List Str := ["self"]
theorem scFaces___init__ : FnScope nFaces___init__ pFaces___init__ (defScope sFaces___init__) := ⟨rfl, rfl, rfl, by decide +kernel, rfl, by decide +kernel, by decide +kernel⟩
theorem ok_Faces___init__ {P : Program} {w : World} {K : PySem.W.Frag} {mg : Str → Option Value} {base : Heap} (T : Tb w K mg base) : Fk P w K mg base 1 (He.ma K (He.ga K "Faces") "__init__") pFaces___init__ (spInitF (He.ga K "Faces")) := by
  refine Fk.mk' T.fFaces___init__ scFaces___init__ (fun _ _ _ _ _ _ us hl => match us, hl with | [_], _ => rfl) (by
  intro vs H Q E h
  repeat (first | (obtain ⟨h1, _⟩ := h; subst h1; rfl) | (obtain ⟨_, h⟩ := h))) (fun cdv A outer s H vs Q E hr h => ?_)
  have hu := hu_of hr
  have hu64 := hr.units
  refine ⟨_, (pss_cons (k_sfld K (pv 0) (pe_lst pa_nil) rfl)
  (pss_cons (k_sfld K (pv 0) (pe_lst pa_nil) rfl)
  (pss_cons (k_sfld K (pv 0) (pe_lst pa_nil) rfl)
  (pss_cons (k_sfld K (pv 0) pe_dnewT rfl)
  (pss_one (k_sfld K (pv 0) pe_dnewT rfl)))))), ?_⟩
  try dsimp only [cxOf]
  obtain ⟨p, dx, rfl, hp, q⟩ := h
  walk_at "z"
  refine ⟨sz1000 (by simp), fun n hn => ?_⟩
  walk_at "z"
  refine z_sfldR (fs' := [("nodes", .ref n)]) (by rw [upd_ne (ne_of_none hp hn)]; exact hp) T.cFaces T.aFaces_nodes (by simp) (by rfl) ?_
  have st := init_step (o := .lst []) (fs' := [("nodes", .ref n)]) hp hn
  generalize upd (upd H n _) p _ = H1 at st ⊢
  obtain ⟨hp1, fn, k1, np⟩ := st
  walk_at "z"
  refine ⟨sz1000 (by simp), fun d hd => ?_⟩
  walk_at "z"
  refine z_sfldR (fs' := [("nodes", .ref n), ("depths", .ref d)]) (by rw [upd_ne (ne_of_none hp1 hd)]; exact hp1) T.cFaces T.aFaces_depths (by simp) (by rfl) ?_
  have st := init_step (o := .lst []) (fs' := [("nodes", .ref n), ("depths", .ref d)]) hp1 hd
  generalize upd (upd H1 d _) p _ = H2 at st ⊢
  obtain ⟨hp2, fd, k2, dp⟩ := st
  walk_at "z"
  refine ⟨sz1000 (by simp), fun s2 hs2 => ?_⟩
  walk_at "z"
  refine z_sfldR (fs' := [("nodes", .ref n), ("depths", .ref d), ("sums", .ref s2)]) (by rw [upd_ne (ne_of_none hp2 hs2)]; exact hp2) T.cFaces T.aFaces_sums (by simp) (by rfl) ?_
  have st := init_step (o := .lst []) (fs' := [("nodes", .ref n), ("depths", .ref d), ("sums", .ref s2)]) hp2 hs2
  generalize upd (upd H2 s2 _) p _ = H3 at st ⊢
  obtain ⟨hp3, fs2, k3, s2p⟩ := st
  walk_at "z"
  intro k hk
  walk_at "z"
  refine z_sfldR (fs' := [("nodes", .ref n), ("depths", .ref d), ("sums", .ref s2), ("known", .ref k)]) (by rw [upd_ne (ne_of_none hp3 hk)]; exact hp3) T.cFaces T.aFaces_known (by simp) (by rfl) ?_
  have st := init_step (o := .dT []) (fs' := [("nodes", .ref n), ("depths", .ref d), ("sums", .ref s2), ("known", .ref k)]) hp3 hk
  generalize upd (upd H3 k _) p _ = H4 at st ⊢
  obtain ⟨hp4, fk, k4, kp⟩ := st
  walk_at "z"
  intro w2 hw2
  walk_at "z"
  refine z_sfldR (fs' := [("nodes", .ref n), ("depths", .ref d), ("sums", .ref s2), ("known", .ref k), ("whirls", .ref w2)]) (by rw [upd_ne (ne_of_none hp4 hw2)]; exact hp4) T.cFaces T.aFaces_whirls (by simp) (by rfl) ?_
  have st := init_step (o := .dT []) (fs' := [("nodes", .ref n), ("depths", .ref d), ("sums", .ref s2), ("known", .ref k), ("whirls", .ref w2)]) hp4 hw2
  generalize upd (upd H4 w2 _) p _ = H5 at st ⊢
  obtain ⟨hp5, fw2, k5, w2p⟩ := st
  walk_at "z"
  have gn := k5 _ _ (k4 _ _ (k3 _ _ (k2 _ _ fn np) np) np) np
  have gd := k5 _ _ (k4 _ _ (k3 _ _ fd dp) dp) dp
  have gs := k5 _ _ (k4 _ _ fs2 s2p) s2p
  have gk := k5 _ _ fk kp
  have hn0 : ∀ b u, H b = some u → b ≠ p → H5 b = some u := fun b u e h => k5 _ _ (k4 _ _ (k3 _ _ (k2 _ _ (k1 _ _ e h) h) h) h) h
  have bk : ∀ {b : Addr} {Ha Hb : Hp}, (∀ b u, Ha b = some u → b ≠ p → Hb b = some u) → b ≠ p → Hb b = none → Ha b = none := fun {b Ha Hb} k hb e => by
    cases q : Ha b with
    | none => rfl
    | some u => rw [k b u q hb] at e; cases e
  refine q H5 ⟨n, d, s2, k, w2⟩ (fun b => b = p ∨ b = n ∨ b = d ∨ b = s2 ∨ b = k ∨ b = w2) hn0 ⟨⟨dx, hp5⟩, ⟨[], gn, rfl, fun i a P e1 e2 => by simp at e1⟩, gd, ⟨[], gs, rfl, fun i a P e1 e2 => by simp at e1⟩, ⟨[], gk, KnOk.nil⟩, ⟨[], fw2, WhOk.nil⟩, PInv.nil, .inl rfl, ?_, ?_, ?_⟩ ?_
  · rintro b (rfl | rfl | rfl | rfl | rfl) <;> simp
  · rintro b (rfl | rfl | rfl | rfl | rfl | rfl)
    · exact ⟨_, hp5⟩
    · exact ⟨_, gn⟩
    · exact ⟨_, gd⟩
    · exact ⟨_, gs⟩
    · exact ⟨_, gk⟩
    · exact ⟨_, fw2⟩
  · exact ⟨ne_of_none fn hd, ne_of_none (k2 _ _ fn np) hs2, ne_of_none fd hs2, ne_of_none fk hw2⟩
  · rintro b (rfl | rfl | rfl | rfl | rfl | rfl)
    · exact .inl rfl
    · exact .inr hn
    · exact .inr (bk k1 dp hd)
    · exact .inr (bk k1 s2p (bk k2 s2p hs2))
    · exact .inr (bk k1 kp (bk k2 kp (bk k3 kp hk)))
    · exact .inr (bk k1 w2p (bk k2 w2p (bk k3 w2p (bk k4 w2p hw2))))
def isWhole : PyData → Bool
  | .int _ => true
  | _ => false
def spWhole : Sp := fun vs H Q _ => ∃ x d, vs = [x] ∧ Dv H x d ∧ Q (.bl (isWhole d)) H
abbrev n_law_whole : List Str := ["_law_found"]
abbrev p_law_whole : List Str := ["_law_found"]
theorem sc_law_whole : FnScope n_law_whole p_law_whole (defScope s_law_whole) := ⟨rfl, rfl, rfl, by decide +kernel, rfl, by decide +kernel, by decide +kernel⟩
theorem ok__law_whole {P : Program} {w : World} {K : PySem.W.Frag} {mg : Str → Option Value} {base : Heap} (T : Tb w K mg base) : Fk P w K mg base 1 (He.ga K "_law_whole") p_law_whole (spWhole) := by
  refine Fk.mk' T.f_law_whole sc_law_whole (fun _ _ _ _ _ _ us hl => match us, hl with | [_], _ => rfl) (by
  intro vs H Q E h
  repeat (first | (obtain ⟨h1, _⟩ := h; subst h1; rfl) | (obtain ⟨_, h⟩ := h))) (fun cdv A outer s H vs Q E hr h => ?_)
  have hu := hu_of hr
  have hu64 := hr.units
  refine ⟨_, (pss_one (ps_ret (pe_and (pe_callB (k_isi K) (by rfl) T.uisinstance (by decide +kernel) (pa_cons (pv 0) (pa_cons (pe_bltn (v := .ty "int") (by rfl) T.uint (by decide +kernel) rfl) pa_nil))) (pe_one (pe_not (pe_callB (k_isi K) (by rfl) T.uisinstance (by decide +kernel) (pa_cons (pv 0) (pa_cons (pe_bltn (v := .ty "bool") (by rfl) T.ubool (by decide +kernel) rfl) pa_nil)))))))), ?_⟩
  try dsimp only [cxOf]
  obtain ⟨x, d, rfl, hd, q⟩ := h
  walk_at "z"
  cases hd with
  | int i =>
    refine z_isI true (by decide +kernel) ?_
    walk_at "z"
    refine z_isI false (by decide +kernel) ?_
    walk_at "z"
    exact q
  | non => exact z_isNn false (by decide +kernel) (by walk_at "z"; exact q)
  | bl b => exact z_isBl true (by decide +kernel) (by walk_at "z"; exact z_isBl true (by decide +kernel) (by walk_at "z"; exact q))
  | str x => exact z_isS false (by decide +kernel) (by walk_at "z"; exact q)
  | lst h1 h2 => exact z_isL false h1 (by decide +kernel) (by walk_at "z"; exact q)
  | tup h1 h2 => exact z_isT false h1 (by decide +kernel) (by walk_at "z"; exact q)
/-- the same data on both sides: True comes out -/
def spLike (n : Nat) : Sp := fun vs H Q _ => ∃ x y d, vs = [x, y] ∧ Dv H x d ∧ Dv H y d ∧ dpt d < n ∧ ∀ H', Same H H' → Q (.bl true) H'
abbrev n_law_like : List Str := ["_law_found", "_law_due_here", "_law_one", "_law_other"]
abbrev p_law_like : List Str := ["_law_found", "_law_due_here"]
theorem sc_law_like : FnScope n_law_like p_law_like (defScope s_law_like) := ⟨rfl, rfl, rfl, by decide +kernel, rfl, by decide +kernel, by decide +kernel⟩
theorem ok__law_like {P : Program} {w : World} {K : PySem.W.Frag} {mg : Str → Option Value} {base : Heap} (T : Tb w K mg base) : ∀ n : Nat, Fk P w K mg base (1 + n) (He.ga K "_law_like") p_law_like (spLike n)
  | 0 => (Fk.no T.f_law_like (fun _ _ _ _ _ _ us hl => match us, hl with | [_, _], _ => rfl) (fun vs H Q E ⟨x, y, d, _, _, _, h, _⟩ => absurd h (Nat.not_lt_zero _))).up (by omega)
  | n + 1 => by
      have GR := ok__law_like (P := P) (w := w) (base := base) T n
      have G_law_whole := ok__law_whole (P := P) (w := w) (base := base) T
      refine Fk.mk' (k := 1 + n) T.f_law_like sc_law_like (fun _ _ _ _ _ _ us hl => match us, hl with | [_, _], _ => rfl) (by
        intro vs H Q E h
        repeat (first | (obtain ⟨h1, _⟩ := h; subst h1; rfl) | (obtain ⟨_, h⟩ := h))) (fun cdv A outer s H vs Q E hr h => ?_)
      have hu := hu_of hr
      have hu64 := hr.units
      refine ⟨_, (pss_cons (ps_if (pt_cmpR op_isX (pv 1) pe_non (nomark _)) (pss_one (ps_ret (pe_cmpR op_isX (pv 0) pe_non (nomark _)))) pss_nil)
      (pss_cons (ps_if (pt_cmpR op_isX (pv 1) pe_bl (nomark _)) (pss_one (ps_ret (pe_cmpR op_isX (pv 0) pe_bl (nomark _)))) pss_nil)
      (pss_cons (ps_if (pt_cmpR op_isX (pv 1) pe_bl (nomark _)) (pss_one (ps_ret (pe_cmpR op_isX (pv 0) pe_bl (nomark _)))) pss_nil)
      (pss_cons (ps_if (pt_val (pe_callB (k_isi K) (by rfl) T.uisinstance (by decide +kernel) (pa_cons (pv 1) (pa_cons (pe_bltn (v := .ty "int") (by rfl) T.uint (by decide +kernel) rfl) pa_nil)))) (pss_one (ps_ret (pe_and (q_call G_law_whole (hr.mono (by omega)) T.g_law_whole passX (pa_cons (pv 0) pa_nil)) (pe_one (pe_cmpR (k_eq K hu64) (pv 0) (pv 1) (nomark _)))))) pss_nil)
      (pss_cons (ps_if (pt_val (pe_callB (k_isi K) (by rfl) T.uisinstance (by decide +kernel) (pa_cons (pv 1) (pa_cons (pe_bltn (v := .ty "str") (by rfl) T.ustr (by decide +kernel) rfl) pa_nil)))) (pss_one (ps_ret (pe_and (pe_callB (k_isi K) (by rfl) T.uisinstance (by decide +kernel) (pa_cons (pv 0) (pa_cons (pe_bltn (v := .ty "str") (by rfl) T.ustr (by decide +kernel) rfl) pa_nil))) (pe_one (pe_cmpR (k_eq K hu64) (pv 0) (pv 1) (nomark _)))))) pss_nil)
      (pss_cons (ps_if (PW.pt (pw_and (pt_val (pe_callB (k_isi K) (by rfl) T.uisinstance (by decide +kernel) (pa_cons (pv 1) (pa_cons (pe_bltn (v := .ty "tuple") (by rfl) T.utuple (by decide +kernel) rfl) pa_nil)))) (pw_and1 (pt_not (pt_val (pe_callB (k_isi K) (by rfl) T.uisinstance (by decide +kernel) (pa_cons (pv 0) (pa_cons (pe_bltn (v := .ty "tuple") (by rfl) T.utuple (by decide +kernel) rfl) pa_nil)))))))) (pss_one (ps_ret pe_bl)) pss_nil)
      (pss_cons (ps_if (PW.pt (pw_and (pt_val (pe_callB (k_isi K) (by rfl) T.uisinstance (by decide +kernel) (pa_cons (pv 1) (pa_cons (pe_bltn (v := .ty "list") (by rfl) T.ulist (by decide +kernel) rfl) pa_nil)))) (pw_and1 (pt_not (pt_val (pe_callB (k_isi K) (by rfl) T.uisinstance (by decide +kernel) (pa_cons (pv 0) (pa_cons (pe_bltn (v := .ty "list") (by rfl) T.ulist (by decide +kernel) rfl) pa_nil)))))))) (pss_one (ps_ret pe_bl)) pss_nil)
      (pss_cons (ps_if (pt_cmpR (k_ne K hu64) (pe_callB (k_len K) (by rfl) T.ulen (by decide +kernel) (pa_cons (pv 0) pa_nil)) (pe_callB (k_len K) (by rfl) T.ulen (by decide +kernel) (pa_cons (pv 1) pa_nil)) (nomark _)) (pss_one (ps_ret pe_bl)) pss_nil)
      (pss_cons (ps_for (passes_of rfl) rfl (k_zip K (by rfl) T.uzip (pa_cons (pv 0) (pa_cons (pv 1) pa_nil))) (k_pgt (n := 2) K rfl (pgs_cons (pg_name (i := 2) sc_law_like.nd rfl (Or.inl rfl)) (pgs_cons (pg_name (i := 3) sc_law_like.nd rfl (Or.inl rfl)) pgs_nil))) (pss_one (ps_if (pt_not (pt_val (q_call GR (hr.mono (by omega)) T.g_law_like passX (pa_cons (pv 2) (pa_cons (pv 3) pa_nil))))) (pss_one (ps_ret pe_bl)) pss_nil)))
      (pss_one (ps_ret pe_bl))))))))))), ?_⟩
      try dsimp only [cxOf]
      obtain ⟨x, y, d, rfl, hx, hy, hd, q⟩ := h
      walk_at "z"
      cases hx with
      | non =>
        cases hy
        refine z_yes rfl ?_
        walk_at "z"
        exact q H (Same.refl H)
      | bl b =>
        cases hy
        refine z_no (by intro z; cases z) ?_
        walk_at "z"
        cases b with
        | true =>
          refine z_yes rfl ?_
          walk_at "z"
          exact q H (Same.refl H)
        | false =>
          refine z_no (by intro z; cases z) ?_
          walk_at "z"
          refine z_yes rfl ?_
          walk_at "z"
          exact q H (Same.refl H)
      | int i =>
        cases hy
        refine z_no (by intro z; cases z) ?_
        walk_at "z"
        refine z_no (by intro z; cases z) ?_
        walk_at "z"
        refine z_no (by intro z; cases z) ?_
        walk_at "z"
        refine z_isI true (by decide +kernel) ?_
        walk_at "z"
        refine ⟨_, _, rfl, .int i, ?_⟩
        walk_at "z"
        refine iteT ?_
        walk_at "z"
        have e : decide (i = i) = true := decide_eq_true rfl
        rw [e]
        exact q H (Same.refl H)
      | str i =>
        cases hy
        refine z_no (by intro z; cases z) ?_
        walk_at "z"
        refine z_no (by intro z; cases z) ?_
        walk_at "z"
        refine z_no (by intro z; cases z) ?_
        walk_at "z"
        refine z_isS false (by decide +kernel) ?_
        walk_at "z"
        refine z_isS true (by decide +kernel) ?_
        walk_at "z"
        refine z_isS true (by decide +kernel) ?_
        walk_at "z"
        have e : decide (i = i) = true := decide_eq_true rfl
        rw [e]
        exact q H (Same.refl H)
      | @tup a xs ds ha hxs =>
        cases hy with
        | @tup b ys _ hb hys =>
        have hl : xs.length = ys.length := by rw [hxs.len, hys.len]
        refine z_no (by intro z; cases z) ?_
        walk_at "z"
        refine z_no (by intro z; cases z) ?_
        walk_at "z"
        refine z_no (by intro z; cases z) ?_
        walk_at "z"
        refine z_isT false hb (by decide +kernel) ?_
        walk_at "z"
        refine z_isT false hb (by decide +kernel) ?_
        walk_at "z"
        refine z_isT true hb (by decide +kernel) ?_
        walk_at "z"
        refine z_isT true ha (by decide +kernel) ?_
        walk_at "z"
        refine z_isT false hb (by decide +kernel) ?_
        walk_at "z"
        refine z_lenT (SqT.of ha) ?_
        walk_at "z"
        refine z_lenT (SqT.of hb) ?_
        walk_at "z"
        refine z_noN (by rw [hl]) ?_
        walk_at "z"
        refine ⟨_, _, _, _, rfl, .inr ⟨SqT.of ha, SqT.of hb, ?_⟩⟩
        refine RZ.for_zipT hl (fun i σ H' => ∃ u v, σ = [some (.ref a), some (.ref b), u, v] ∧ Same H H') ⟨_, _, rfl, Same.refl H⟩ (fun i σ H' ⟨_, _, _, s⟩ => ⟨s.tup (SqT.of ha), s.tup (SqT.of hb)⟩) ?_ ?_
        · rintro i x y T σ H' ex ey ⟨u, v, rfl, s1⟩ nT
          refine z_gTup (SqT.of upd_same) rfl ?_
          walk_at "z"
          obtain ⟨d, e1, e2⟩ := hxs.get ex
          obtain ⟨d', e1', e2'⟩ := hys.get ey
          cases e1.symm.trans e1'
          have s2 : Same H (upd H' T (.tup [x, y])) := s1.trans (Same.new nT)
          refine ⟨x, y, d, rfl, dv_same s2 e2, dv_same s2 e2', ?_, fun H2 s3 => ?_⟩
          · have := dpt_mem e1
            simp only [dpt] at hd
            omega
          · walk_at "z"
            exact ⟨_, _, rfl, s2.trans s3⟩
        · rintro σ H' ⟨u, v, rfl, s1⟩
          walk_at "z"
          exact q _ s1
      | @lst a xs ds ha hxs =>
        cases hy with
        | @lst b ys _ hb hys =>
        have hl : xs.length = ys.length := by rw [hxs.len, hys.len]
        refine z_no (by intro z; cases z) ?_
        walk_at "z"
        refine z_no (by intro z; cases z) ?_
        walk_at "z"
        refine z_no (by intro z; cases z) ?_
        walk_at "z"
        refine z_isL false hb (by decide +kernel) ?_
        walk_at "z"
        refine z_isL false hb (by decide +kernel) ?_
        walk_at "z"
        refine z_isL false hb (by decide +kernel) ?_
        walk_at "z"
        refine z_isL true hb (by decide +kernel) ?_
        walk_at "z"
        refine z_isL true ha (by decide +kernel) ?_
        walk_at "z"
        refine z_lenL (SqL.of ha) ?_
        walk_at "z"
        refine z_lenL (SqL.of hb) ?_
        walk_at "z"
        refine z_noN (by rw [hl]) ?_
        walk_at "z"
        refine ⟨_, _, _, _, rfl, .inl ⟨SqL.of ha, SqL.of hb, ?_⟩⟩
        refine RZ.for_zipL hl (fun i σ H' => ∃ u v, σ = [some (.ref a), some (.ref b), u, v] ∧ Same H H') ⟨_, _, rfl, Same.refl H⟩ (fun i σ H' ⟨_, _, _, s⟩ => ⟨s.seq (SqL.of ha), s.seq (SqL.of hb)⟩) ?_ ?_
        · rintro i x y T σ H' ex ey ⟨u, v, rfl, s1⟩ nT
          refine z_gTup (SqT.of upd_same) rfl ?_
          walk_at "z"
          obtain ⟨d, e1, e2⟩ := hxs.get ex
          obtain ⟨d', e1', e2'⟩ := hys.get ey
          cases e1.symm.trans e1'
          have s2 : Same H (upd H' T (.tup [x, y])) := s1.trans (Same.new nT)
          refine ⟨x, y, d, rfl, dv_same s2 e2, dv_same s2 e2', ?_, fun H2 s3 => ?_⟩
          · have := dpt_mem e1
            simp only [dpt] at hd
            omega
          · walk_at "z"
            exact ⟨_, _, rfl, s2.trans s3⟩
        · rintro σ H' ⟨u, v, rfl, s1⟩
          walk_at "z"
          exact q _ s1
def spStored (C : Addr) : Sp := fun vs H Q _ => ∃ p A D ps P, ∃ t sm : Addr, vs = [.ref p, .ref t, .int (P.depth : Nat), .ref sm] ∧ FacesAt C H p A D ps ∧ H t = some (.tup ((nodeOf ps P).map V.int)) ∧ H sm = some (.lst (P.sums.map V.int)) ∧ ¬ A.foot sm ∧
  PartsIn ps P ∧ P.ok ∧ ps.length < 100000 ∧ ∀ H' D', Keep A.foot H H' → FacesAt C H' p A D' (addP ps P) → (∀ b, D b → D' b) → (∀ b, D' b → D b ∨ b = t ∨ b = sm) → Q (.int (ix (addP ps P) P : Nat)) H'
abbrev nFaces_stored : List Str := ["self", "node", "deep", "sums"]
abbrev pFaces_stored : List Str := ["self", "node", "deep", "sums"]
theorem scFaces_stored : FnScope nFaces_stored pFaces_stored (defScope sFaces_stored) := ⟨rfl, rfl, rfl, by decide +kernel, rfl, by decide +kernel, by decide +kernel⟩
theorem ok_Faces_stored {P : Program} {w : World} {K : PySem.W.Frag} {mg : Str → Option Value} {base : Heap} (T : Tb w K mg base) : Fk P w K mg base 1 (He.ma K (He.ga K "Faces") "stored") pFaces_stored (spStored (He.ga K "Faces")) := by
  refine Fk.mk' T.fFaces_stored scFaces_stored (fun _ _ _ _ _ _ us hl => match us, hl with | [_, _, _, _], _ => rfl) (by
  intro vs H Q E h
  repeat (first | (obtain ⟨h1, _⟩ := h; subst h1; rfl) | (obtain ⟨_, h⟩ := h))) (fun cdv A outer s H vs Q E hr h => ?_)
  have hu := hu_of hr
  have hu64 := hr.units
  refine ⟨_, (pss_cons (ps_if (pt_cmp (pc_dnotin hu (pv 1) (k_fld K (pv 0) rfl))) (pss_cons (ps_dput hu (k_fld K (pv 0) rfl) (pv 1) (pe_callB (k_len K) (by rfl) T.ulen (by decide +kernel) (pa_cons (k_fld K (pv 0) rfl) pa_nil)) rfl)
  (pss_cons (ps_expr (k_bm K PySem.F.plainAttrs_list PySem.F.slot_list_append PySem.F.type_list_append mt_append (k_fld K (pv 0) rfl) (pa_cons (pv 1) pa_nil)))
  (pss_cons (ps_expr (k_bm K PySem.F.plainAttrs_list PySem.F.slot_list_append PySem.F.type_list_append mt_append (k_fld K (pv 0) rfl) (pa_cons (pv 2) pa_nil)))
  (pss_one (ps_expr (k_bm K PySem.F.plainAttrs_list PySem.F.slot_list_append PySem.F.type_list_append mt_append (k_fld K (pv 0) rfl) (pa_cons (pv 3) pa_nil))))))) pss_nil)
  (pss_one (ps_ret (pe_dget hu (k_fld K (pv 0) rfl) (pv 1) (fun _ _ => rfl))))), ?_⟩
  try dsimp only [cxOf]
  obtain ⟨p, A, D, ps, P, t, sm, rfl, hF, ht, hsm, nf, pin, ok, hl, q⟩ := h
  obtain ⟨dx, ob⟩ := hF.ob
  obtain ⟨ns, hn, n2, n3⟩ := hF.nodes
  obtain ⟨ss, hs, s2, s3⟩ := hF.sums
  obtain ⟨kvs, hk, k2⟩ := hF.known
  have ek : (key (nodeOf ps P)).map kV = (nodeOf ps P).map V.int := by simp [key, kV, Function.comp_def]
  have hv := k2.val P pin
  have nk : A.n ≠ A.k := ne_of hn hk (by intro z; cases z)
  have dk : A.d ≠ A.k := ne_of hF.depths hk (by intro z; cases z)
  have sk : A.s ≠ A.k := ne_of hs hk (by intro z; cases z)
  have pf := foot_p hF
  have tf := foot_tup hF ht
  obtain ⟨ap1, ap2, ap3, ap4⟩ := hF.ap
  walk_at "z"
  refine z_fldR ob T.cFaces T.aFaces_known lkFaces_known ?_
  refine z_dniR (DGet.t (k := key (nodeOf ps P)) hk (by rw [ek]; exact ht)) ?_
  walk_at "z"
  rw [hv]
  by_cases hP : P ∈ ps
  · rw [if_pos hP]
    refine iteF ?_
    walk_at "z"
    refine z_fldR ob T.cFaces T.aFaces_known lkFaces_known ?_
    walk_at "z"
    have e : addP ps P = ps := if_pos hP
    refine z_dgetR (v := .int (ix ps P : Nat)) ?_ ?_
    · have g := DGet.t (k := key (nodeOf ps P)) hk (by rw [ek]; exact ht)
      rw [hv, if_pos hP] at g
      exact g
    · rw [e] at q
      exact q H D (Keep.refl _ _) hF (fun _ h => h) fun b h => .inl h
  · have hst := hF.stored (t := t) (sm := sm) hn hs hk ht hsm nf pin ok hP
    have e : addP ps P = ps ++ [P] := if_neg hP
    rw [if_neg hP]
    refine iteT ?_
    walk_at "z"
    refine z_fldR ob T.cFaces T.aFaces_nodes lkFaces_nodes ?_
    walk_at "z"
    refine z_lenL (SqL.of hn) ?_
    walk_at "z"
    rw [List.length_map, n2]
    refine z_fldR ob T.cFaces T.aFaces_known lkFaces_known ?_
    walk_at "z"
    refine z_dputR (DPut.t (k := key (nodeOf ps P)) hk (by rw [ek]; exact ht) (by rw [k2.len]; exact szlt (by omega))) ?_
    walk_at "z"
    have pk : p ≠ A.k := fun z => pf (by rw [z]; exact .inr (.inr (.inr (.inl rfl))))
    have pn : p ≠ A.n := fun z => pf (by rw [z]; exact .inl rfl)
    have pd : p ≠ A.d := fun z => pf (by rw [z]; exact .inr (.inl rfl))
    have ps3 : p ≠ A.s := fun z => pf (by rw [z]; exact .inr (.inr (.inl rfl)))
    refine z_fldR (by rw [upd_ne pk]; exact ob) T.cFaces T.aFaces_nodes lkFaces_nodes ?_
    refine z_tyL (SqL.of (by rw [upd_ne nk]; exact hn)) ?_
    walk_at "z"
    refine z_app (by rw [upd_ne nk]; exact hn) (by rw [List.length_map]; exact szlt (by omega)) ?_
    walk_at "z"
    refine z_fldR (by rw [upd_ne pn, upd_ne pk]; exact ob) T.cFaces T.aFaces_depths lkFaces_depths ?_
    refine z_tyL (SqL.of (by rw [upd_ne ap1.symm, upd_ne dk]; exact hF.depths)) ?_
    walk_at "z"
    refine z_app (by rw [upd_ne ap1.symm, upd_ne dk]; exact hF.depths) (by rw [List.length_map]; exact szlt (by omega)) ?_
    walk_at "z"
    refine z_fldR (by rw [upd_ne pd, upd_ne pn, upd_ne pk]; exact ob) T.cFaces T.aFaces_sums lkFaces_sums ?_
    refine z_tyL (SqL.of (by rw [upd_ne ap3.symm, upd_ne ap2.symm, upd_ne sk]; exact hs)) ?_
    walk_at "z"
    refine z_app (by rw [upd_ne ap3.symm, upd_ne ap2.symm, upd_ne sk]; exact hs) (by rw [List.length_map]; exact szlt (by omega)) ?_
    walk_at "z"
    obtain ⟨kp, hF2⟩ := hst
    generalize upd (upd (upd (upd H A.k _) A.n _) A.d _) A.s _ = H4 at kp hF2 ⊢
    obtain ⟨dx2, ob2⟩ := hF2.ob
    obtain ⟨kv2, hk2, kn2⟩ := hF2.known
    refine z_fldR ob2 T.cFaces T.aFaces_known lkFaces_known ?_
    walk_at "z"
    have hv2 := kn2.val P pin.app
    rw [if_pos (by simp), node_app pin] at hv2
    refine z_dgetR (v := .int (ix (ps ++ [P]) P : Nat)) ?_ ?_
    · have g := DGet.t (k := key (nodeOf ps P)) hk2 (by rw [ek]; exact kp _ _ ht tf)
      rw [hv2] at g
      exact g
    · rw [e] at q
      exact q H4 _ kp hF2 (fun b h => .inl h) (fun b h => h)
def spPlain (C B : Addr) : Sp := fun vs H Q E => ∃ p A D ps, ∃ c : Int, vs = [.ref p, .int c] ∧ FacesAt C H p A D ps ∧ ps.length < 100000 ∧ (¬ (0 ≤ c ∧ c ≤ 9) → E (.ref B) none H) ∧
  ((0 ≤ c ∧ c ≤ 9) → After C H p A D (addP ps (.p c)) fun H' => Q (.int (ix (addP ps (.p c)) (.p c) : Nat)) H')
abbrev nFaces_plain : List Str := ["self", "colour", "k"]
abbrev pFaces_plain : List Str := ["self", "colour"]
theorem scFaces_plain : FnScope nFaces_plain pFaces_plain (defScope sFaces_plain) := ⟨rfl, rfl, rfl, by decide +kernel, rfl, by decide +kernel, by decide +kernel⟩
theorem ok_Faces_plain {P : Program} {w : World} {K : PySem.W.Frag} {mg : Str → Option Value} {base : Heap} (T : Tb w K mg base) : Fk P w K mg base 2 (He.ma K (He.ga K "Faces") "plain") pFaces_plain (spPlain (He.ga K "Faces") (He.ga K "BadColour")) := by
  have GFaces_stored := ok_Faces_stored (P := P) (w := w) (base := base) T
  refine Fk.mk' T.fFaces_plain scFaces_plain (fun _ _ _ _ _ _ us hl => match us, hl with | [_, _], _ => rfl) (by
  intro vs H Q E h
  repeat (first | (obtain ⟨h1, _⟩ := h; subst h1; rfl) | (obtain ⟨_, h⟩ := h))) (fun cdv A outer s H vs Q E hr h => ?_)
  have hu := hu_of hr
  have hu64 := hr.units
  refine ⟨_, (pss_cons (ps_if (PW.pt (pw_or (pt_cmpR op_lt (pv 1) pe_int (nomark _)) (pw_or1 (pt_cmpR op_ge (pv 1) (q_int T.iCOLOURS) (nomark _))))) (pss_one (ps_raise rfl takesX (pmk_own PySem.F.excBase_ValueError T.eBadColour.1 T.gBadColour T.eBadColour.2.1 (raises_own T.eBadColour.2.2.1 T.eBadColour.2.2.2) (by rfl)))) pss_nil)
  (pss_one (ps_ret (q_meth (pv 0) T.cFaces T.mFaces_stored GFaces_stored (hr.mono (by omega)) passX (pa_cons (pe_tup (pa_cons (pv 1) pa_nil)) (pa_cons pe_int (pa_cons (pe_lc (own := [("k", 2)]) (g := gName 2) rfl scFaces_plain.nd (pi_range1 (by rfl) T.urange (pa_cons (q_int T.iCOLOURS) pa_nil)) (blkOk_by (own := [("k", 2)]) (N := nFaces_plain) (sc := defScope sFaces_plain) (by decide +kernel)) (fun _ _ _ _ _ => pg_name (i := 2) scFaces_plain.nd rfl (Or.inl rfl)) (fun _ _ _ _ _ => pts_nil) (fun _ _ _ _ _ => (pe_callTy call_intU (by rfl) T.uint (by decide +kernel) (pa_cons (pe_cmpR (k_eq K hu64) (pv 2) (pv 1) (nomark _)) pa_nil)))) pa_nil))))))), ?_⟩
  try dsimp only [cxOf]
  obtain ⟨p, A, D, ps, c, rfl, hF, hl, e, q⟩ := h
  obtain ⟨dx, ob⟩ := hF.ob
  walk_at "z"
  refine z_ite (fun c1 => ?_) (fun c1 => ?_)
  · walk_at "z"
    exact e (by omega)
  walk_at "z"
  refine z_ite (fun c2 => ?_) (fun c2 => ?_)
  · walk_at "z"
    exact e (by omega)
  walk_at "z"
  refine z_methR ob noFaces_stored ?_
  walk_at "z"
  refine ⟨sz1000 (by simp), fun t ht => ?_⟩
  walk_at "z"
  refine ⟨_, rfl, by decide, by decide, fun L hL => ?_⟩
  refine lc_range (lo := 0) (n := 10) (fun i H' => H' = upd (upd H t (.tup [V.int c])) L (.lst (((List.range i).map fun k : Nat => (if (k : Int) = c then 1 else 0)).map V.int))) rfl ?_ ?_
  · rintro i H' hi rfl
    walk_at "zw"
    walk_at "z"
    refine ⟨rfl, ?_⟩
    walk_at "z"
    refine ⟨_, upd_same, szlt (by simp; omega), ?_⟩
    rw [upd_upd, List.range_succ, List.map_append, List.map_append]
    have e2 : (if (decide ((0 : Int) + (i : Nat) = c)) = true then (1 : Int) else 0) = if (i : Int) = c then 1 else 0 := by
      by_cases h : (i : Int) = c
      · rw [if_pos (by simpa using h), if_pos h]
      · rw [if_neg (by simpa using h), if_neg h]
    rw [e2]
    rfl
  · rintro H' rfl
    walk_at "z"
    have hc : 0 ≤ c ∧ c ≤ 9 := by omega
    have tL : t ≠ L := ne_of_none upd_same hL
    have hL0 : H L = none := by rw [upd_ne tL.symm] at hL; exact hL
    have sm : Same H (upd (upd H t (.tup [V.int c])) L (.lst (((List.range 10).map fun k : Nat => (if (k : Int) = c then (1 : Int) else 0)).map V.int))) := (Same.new ht).set hL0
    have fL : ∀ b, A.foot b → H b ≠ none := fun b hb z => by
      obtain ⟨ns, hn, _⟩ := hF.nodes
      obtain ⟨ss, hs, _⟩ := hF.sums
      obtain ⟨kvs, hk, _⟩ := hF.known
      obtain ⟨wh, hw, _⟩ := hF.whirl
      rcases hb with rfl | rfl | rfl | rfl | rfl
      · rw [hn] at z; cases z
      · rw [hF.depths] at z; cases z
      · rw [hs] at z; cases z
      · rw [hk] at z; cases z
      · rw [hw] at z; cases z
    refine ⟨p, A, D, ps, .p c, t, L, rfl, hF.same sm, ?_, upd_same, fun z => fL L z hL0, (fun Q hQ => by simp [Pic.parts] at hQ), hc, hl, fun H' D' kp hF' d1 d2 => ?_⟩
    · rw [upd_ne tL]
      exact upd_same
    · refine q hc H' D' (sm.keep.trans kp) hF' d1 fun b hb => ?_
      rcases d2 b hb with z | rfl | rfl
      · exact .inl z
      · exact .inr ht
      · exact .inr hL0
def spRow : Sp := fun vs H Q _ => ∃ (z : Int) (m : Nat) (b : Int), vs = [.int z, .int (m : Nat), .int b] ∧ m ≤ 1000 ∧ 0 < b ∧ b < 100000000000 ∧ ∀ H' l, Same H H' → H l = none → H' l = some (.lst ((rowI z m b).map V.int)) → Q (.ref l) H'
abbrev n_law_row : List Str := ["_law_cell_here", "_law_many", "_law_base", "_law_found", "_law_k", "_law_turn"]
abbrev p_law_row : List Str := ["_law_cell_here", "_law_many", "_law_base"]
theorem sc_law_row : FnScope n_law_row p_law_row (defScope s_law_row) := ⟨rfl, rfl, rfl, by decide +kernel, rfl, by decide +kernel, by decide +kernel⟩
theorem ok__law_row {P : Program} {w : World} {K : PySem.W.Frag} {mg : Str → Option Value} {base : Heap} (T : Tb w K mg base) : Fk P w K mg base 1 (He.ga K "_law_row") p_law_row (spRow) := by
  refine Fk.mk' T.f_law_row sc_law_row (fun _ _ _ _ _ _ us hl => match us, hl with | [_, _, _], _ => rfl) (by
  intro vs H Q E h
  repeat (first | (obtain ⟨h1, _⟩ := h; subst h1; rfl) | (obtain ⟨_, h⟩ := h))) (fun cdv A outer s H vs Q E hr h => ?_)
  have hu := hu_of hr
  have hu64 := hr.units
  refine ⟨_, (pss_cons (ps_set (i := 3) sc_law_row.nd rfl (Or.inl rfl) (pe_lst pa_nil))
  (pss_cons (ps_set (i := 0) sc_law_row.nd rfl (Or.inl rfl) (pe_callB call_absU (by rfl) T.uabs (by decide +kernel) (pa_cons (pv 0) pa_nil)))
  (pss_cons (ps_if (pt_cmpR op_ge (pv 0) (pe_op op_pow pe_int pe_int) (nomark _)) (pss_cons (ps_for (passes_of rfl) rfl (pi_range1 (by rfl) T.urange (pa_cons (pv 1) pa_nil)) (pg_name (i := 4) sc_law_row.nd rfl (Or.inl rfl)) (pss_cons (ps_expr (k_bm K PySem.F.plainAttrs_list PySem.F.slot_list_append PySem.F.type_list_append mt_append (pv 3) (pa_cons (pe_op op_mod (pv 0) (pv 2)) pa_nil)))
  (pss_one (ps_set (i := 0) sc_law_row.nd rfl (Or.inl rfl) (pe_op op_fdivW (pv 0) (pv 2))))))
  (pss_one (ps_ret (pv 3)))) pss_nil)
  (pss_cons (ps_set (i := 5) sc_law_row.nd rfl (Or.inl rfl) (pe_op op_mod (pe_op op_mulU (pe_op (k_add K) (pe_op op_mod (pv 0) pe_int) pe_int) pe_int) pe_int))
  (pss_cons (ps_for (passes_of rfl) rfl (pi_range1 (by rfl) T.urange (pa_cons (pv 1) pa_nil)) (pg_name (i := 4) sc_law_row.nd rfl (Or.inl rfl)) (pss_cons (ps_set (i := 5) sc_law_row.nd rfl (Or.inl rfl) (pe_op op_mod (pe_op (k_add K) (pe_op (k_add K) (pe_op op_mulU (pv 5) pe_int) (pe_op op_mulU pe_int (pv 4))) pe_int) pe_int))
  (pss_one (ps_expr (k_bm K PySem.F.plainAttrs_list PySem.F.slot_list_append PySem.F.type_list_append mt_append (pv 3) (pa_cons (pe_op op_mod (pe_op op_fdivW (pv 5) pe_int) (pv 2)) pa_nil))))))
  (pss_one (ps_ret (pv 3)))))))), ?_⟩
  try dsimp only [cxOf]
  obtain ⟨z, m, b, rfl, hm, hb, hb2, q⟩ := h
  walk_at "z"
  walk_at "zt"
  rename_i L nL H1 s1 f1
  walk_at "z"
  refine z_I ⟨by decide, by decide, by decide⟩ ?_
  walk_at "z"
  have ea : (if z < 0 then -z else z) = absI z := rfl
  rw [ea]
  unfold rowI at q
  refine z_ite (fun c => ?_) (fun c => ?_)
  · have c' : (1000000000000000000 : Int) ≤ absI z := c
    rw [if_pos c'] at q
    generalize absI z = a at q
    walk_at "z"
    refine ⟨_, rfl, by omega, by omega, ?_⟩
    rw [Int.toNat_natCast]
    refine for_range (fun i σ H' => Same H H' ∧ H' L = some (.lst ((List.range i).map fun j : Nat => V.int (zsI b j a % b))) ∧ ∃ k, σ = [some (.int (zsI b i a)), some (.int (m : Nat)), some (.int b), some (.ref L), k, none]) ⟨s1, f1, none, rfl⟩ ?_ ?_
    · rintro i σ H' hi ⟨s2, f2, k, rfl⟩
      walk_at "z"
      refine z_tyL (SqL.of f2) ?_
      walk_at "z"
      refine z_I hb ?_
      walk_at "z"
      refine z_app f2 (by simp; exact szlt (by omega)) ?_
      walk_at "z"
      refine z_I (divW hb (by omega)) ?_
      walk_at "z"
      exact ⟨s2.set nL, by rw [upd_same, List.range_succ, List.map_append]; rfl, _, rfl⟩
    · rintro σ H' ⟨s2, f2, k, rfl⟩
      walk_at "z"
      exact q H' L s2 nL (by rw [f2, List.map_map]; rfl)
  · have c' : ¬ (1000000000000000000 : Int) ≤ absI z := c
    rw [if_neg c'] at q
    generalize absI z = a at q
    walk_at "z"
    refine z_I (by decide) ?_
    walk_at "z"
    have h0 := Int.emod_nonneg a (show (1000003 : Int) ≠ 0 by decide)
    have h1 := Int.emod_lt_of_pos a (show (0 : Int) < 1000003 by decide)
    refine z_mulI (mulS (by omega) (by decide)) ?_
    walk_at "z"
    refine z_I (by decide) ?_
    walk_at "z"
    have g0 := Int.emod_nonneg ((a % 1000003 + 17) * 69621) (show (2147483647 : Int) ≠ 0 by decide)
    have g1 := Int.emod_lt_of_pos ((a % 1000003 + 17) * 69621) (show (0 : Int) < 2147483647 by decide)
    generalize (a % 1000003 + 17) * 69621 % 2147483647 = t at q g0 g1 ⊢
    refine ⟨_, rfl, by omega, by omega, ?_⟩
    rw [Int.toNat_natCast]
    refine for_range (fun i σ H' => Same H H' ∧ H' L = some (.lst ((List.range i).map fun j : Nat => V.int (tsI (j + 1) t / 1021 % b))) ∧ ∃ k, σ = [some (.int a), some (.int (m : Nat)), some (.int b), some (.ref L), k, some (.int (tsI i t))]) ⟨s1, f1, none, rfl⟩ ?_ ?_
    · rintro i σ H' hi ⟨s2, f2, k, rfl⟩
      have hr := ts_rg g0 g1 i
      walk_at "z"
      refine z_mulI (mulS (by omega) (by decide)) ?_
      walk_at "z"
      refine z_mulI (mulS (by decide) (by omega)) ?_
      walk_at "z"
      refine z_I (by decide) ?_
      walk_at "z"
      refine z_tyL (SqL.of f2) ?_
      walk_at "z"
      refine z_I (divW (by decide) (by decide)) ?_
      walk_at "z"
      refine z_I hb ?_
      walk_at "z"
      refine z_app f2 (by simp; exact szlt (by omega)) ?_
      walk_at "z"
      have e0 : (0 : Int) + (i : Nat) = (i : Nat) := Int.zero_add _
      rw [e0]
      exact ⟨s2.set nL, by rw [upd_same, List.range_succ, List.map_append]; rfl, _, rfl⟩
    · rintro σ H' ⟨s2, f2, k, rfl⟩
      walk_at "z"
      exact q H' L s2 nL (by rw [f2, List.map_map]; rfl)
def spPick : Sp := fun vs H Q _ => ∃ f o m : Int, vs = [.int f, .int o, .int m] ∧ Q (.int (pickI f o m)) H
abbrev n_law_picked : List Str := ["_law_figure", "_law_other", "_law_many"]
abbrev p_law_picked : List Str := ["_law_figure", "_law_other", "_law_many"]
theorem sc_law_picked : FnScope n_law_picked p_law_picked (defScope s_law_picked) := ⟨rfl, rfl, rfl, by decide +kernel, rfl, by decide +kernel, by decide +kernel⟩
theorem ok__law_picked {P : Program} {w : World} {K : PySem.W.Frag} {mg : Str → Option Value} {base : Heap} (T : Tb w K mg base) : Fk P w K mg base 1 (He.ga K "_law_picked") p_law_picked (spPick) := by
  refine Fk.mk' T.f_law_picked sc_law_picked (fun _ _ _ _ _ _ us hl => match us, hl with | [_, _, _], _ => rfl) (by
  intro vs H Q E h
  repeat (first | (obtain ⟨h1, _⟩ := h; subst h1; rfl) | (obtain ⟨_, h⟩ := h))) (fun cdv A outer s H vs Q E hr h => ?_)
  have hu := hu_of hr
  have hu64 := hr.units
  refine ⟨_, (pss_cons (ps_if (PW.pt (pw_and (pt_cmpR (k_eq K hu64) (pe_op op_mod (pv 0) pe_int) pe_int (nomark _)) (pw_and1 (pt_cmpR op_gt (pv 2) pe_int (nomark _))))) (pss_one (ps_ret (pe_callB (call_max2 rfl) (by rfl) T.umax (by decide +kernel) (pa_cons pe_int (pa_cons (pe_op op_sub (pe_op op_sub (pv 2) pe_int) (pe_op op_mod (pv 1) pe_int)) pa_nil))))) pss_nil)
  (pss_one (ps_ret (pv 1)))), ?_⟩
  try dsimp only [cxOf]
  obtain ⟨f, o, m, rfl, q⟩ := h
  unfold pickI at q
  walk_at "z"
  refine z_I (by decide) ?_
  walk_at "z"
  refine z_ite (fun c => ?_) (fun c => ?_)
  · walk_at "z"
    refine z_ite (fun c2 => ?_) (fun c2 => ?_)
    · rw [if_pos ⟨c, c2⟩] at q
      walk_at "z"
      refine z_I (by decide) ?_
      walk_at "z"
      exact ⟨_, _, rfl, q⟩
    · rw [if_neg (fun z => c2 z.2)] at q
      walk_at "z"
      exact q
  · rw [if_neg (fun z => c z.1)] at q
    walk_at "z"
    exact q
def spQu : Sp := fun vs H Q _ => ∃ z m : Int, vs = [.int z, .int m] ∧ ∀ H' q xs, Same H H' → H' q = some (.tup xs) → DvAll H' xs ((quI z m).map pairD) → Q (.ref q) H'
abbrev n_law_quarters : List Str := ["_law_cell_here", "_law_many", "_law_parts", "_law_found", "_law_k"]
abbrev p_law_quarters : List Str := ["_law_cell_here", "_law_many"]
theorem sc_law_quarters : FnScope n_law_quarters p_law_quarters (defScope s_law_quarters) := ⟨rfl, rfl, rfl, by decide +kernel, rfl, by decide +kernel, by decide +kernel⟩
theorem ok__law_quarters {P : Program} {w : World} {K : PySem.W.Frag} {mg : Str → Option Value} {base : Heap} (T : Tb w K mg base) : Fk P w K mg base 2 (He.ga K "_law_quarters") p_law_quarters (spQu) := by
  have G_law_row := ok__law_row (P := P) (w := w) (base := base) T
  have G_law_picked := ok__law_picked (P := P) (w := w) (base := base) T
  refine Fk.mk' T.f_law_quarters sc_law_quarters (fun _ _ _ _ _ _ us hl => match us, hl with | [_, _], _ => rfl) (by
  intro vs H Q E h
  repeat (first | (obtain ⟨h1, _⟩ := h; subst h1; rfl) | (obtain ⟨_, h⟩ := h))) (fun cdv A outer s H vs Q E hr h => ?_)
  have hu := hu_of hr
  have hu64 := hr.units
  refine ⟨_, (pss_cons (ps_set (i := 2) sc_law_quarters.nd rfl (Or.inl rfl) (q_call G_law_row (hr.mono (by omega)) T.g_law_row passX (pa_cons (pv 0) (pa_cons pe_int (pa_cons pe_int pa_nil)))))
  (pss_cons (ps_set (i := 3) sc_law_quarters.nd rfl (Or.inl rfl) (pe_lst pa_nil))
  (pss_cons (ps_for (passes_of rfl) rfl (pi_range1 (by rfl) T.urange (pa_cons pe_int pa_nil)) (pg_name (i := 4) sc_law_quarters.nd rfl (Or.inl rfl)) (pss_one (ps_expr (k_bm K PySem.F.plainAttrs_list PySem.F.slot_list_append PySem.F.type_list_append mt_append (pv 3) (pa_cons (pe_tup (pa_cons (q_call G_law_picked (hr.mono (by omega)) T.g_law_picked passX (pa_cons (k_ix K (pv 2) (pe_op op_mulU pe_int (pv 4)) (fun _ _ => rfl)) (pa_cons (k_ix K (pv 2) (pe_op (k_add K) (pe_op op_mulU pe_int (pv 4)) pe_int) (fun _ _ => rfl)) (pa_cons (pv 1) pa_nil)))) (pa_cons (pe_op op_mod (k_ix K (pv 2) (pe_op (k_add K) (pe_op op_mulU pe_int (pv 4)) pe_int) (fun _ _ => rfl)) pe_int) pa_nil))) pa_nil)))))
  (pss_one (ps_ret (pe_callTy (k_tuple K) (by rfl) T.utuple (by decide +kernel) (pa_cons (pv 3) pa_nil))))))), ?_⟩
  try dsimp only [cxOf]
  obtain ⟨z, m, rfl, q⟩ := h
  walk_at "z"
  refine ⟨z, 12, 10, rfl, by omega, by decide, by decide, fun H1 R s1 nR f1 => ?_⟩
  walk_at "z"
  walk_at "zt"
  rename_i L nL H2 s2 f2
  have f1' := s2 _ _ f1
  have nRL : R ≠ L := ne_of_none f1 nL
  walk_at "z"
  refine ⟨_, rfl, by decide, by decide, ?_⟩
  refine for_range (lo := 0) (n := 4) (fun i σ H' => Same H H' ∧ H' R = some (.lst ((rowI z 12 10).map V.int)) ∧ (∃ xs, H' L = some (.lst xs) ∧ xs.length = i ∧ DvAll H' xs (((quI z m).take i).map pairD)) ∧ ∃ k, σ = [some (.int z), some (.int m), some (.ref R), some (.ref L), k])
    ⟨s1.trans s2, f1', ⟨[], f2, rfl, by rw [List.take_zero]; exact .nil⟩, none, rfl⟩ ?_ ?_
  · rintro i σ H' hi ⟨t1, t2, ⟨xs, t3, t4, t5⟩, k, rfl⟩
    have hi4 : i < 4 := hi
    have e0 : (0 : Int) + (i : Nat) = (i : Nat) := Int.zero_add _
    rw [e0]
    walk_at "z"
    refine z_tyL (SqL.of t3) ?_
    walk_at "z"
    refine z_mulI (mulS (by decide) (by omega)) ?_
    walk_at "z"
    refine z_ixL (SqL.of t2) (atI_row (i := 3 * i) (by omega) (by omega)) ?_
    walk_at "z"
    refine z_mulI (mulS (by decide) (by omega)) ?_
    walk_at "z"
    refine z_ixL (SqL.of t2) (atI_row (i := 3 * i + 1) (by omega) (by omega)) ?_
    walk_at "z"
    refine ⟨_, _, _, rfl, ?_⟩
    walk_at "z"
    refine z_mulI (mulS (by decide) (by omega)) ?_
    walk_at "z"
    refine z_ixL (SqL.of t2) (atI_row (i := 3 * i + 2) (by omega) (by omega)) ?_
    walk_at "z"
    refine z_I (by decide) ?_
    walk_at "z"
    walk_at "zt"
    rename_i T nT H3 s3 f3
    have t3' := s3 _ _ t3
    walk_at "z"
    refine z_app t3' (szlt (by omega)) ?_
    have nLH : H L = none := s1.free nL
    have hq : (quI z m)[i]? = some (pickI ((rowI z 12 10).getD (3 * i) 0) ((rowI z 12 10).getD (3 * i + 1) 0) m, (rowI z 12 10).getD (3 * i + 2) 0 % 8) := by
      rw [quI, List.getElem?_map, List.getElem?_range hi4]; rfl
    refine ⟨(t1.trans s3).set nLH, by rw [upd_ne nRL]; exact s3 _ _ t2, ⟨_, upd_same, by simp [t4], ?_⟩, _, rfl⟩
    rw [List.take_add_one, hq]
    simp only [Option.toList_some, List.map_append, List.map_cons, List.map_nil]
    have hfl : flatAll (((quI z m).take i).map pairD) = true := flat_pairs _
    refine DvAll.snoc ?_ (dvAll_stay (tup_upd t3') hfl (dvAll_same s3 t5))
    exact .tup (tup_upd t3' _ _ f3) (.cons (.int _) (.cons (.int _) .nil))
  · rintro σ H' ⟨t1, t2, ⟨xs, t3, t4, t5⟩, k, rfl⟩
    rw [List.take_of_length_le (by rw [qu_len]; exact Nat.le_refl 4)] at t5
    walk_at "z"
    refine z_tupL (SqL.of t3) ?_
    walk_at "zn"
    rename_i T nT H3 s3 f3
    exact q H3 T xs (t1.trans s3) f3 (dvAll_same s3 t5)
def plainC : Pic → Option Int
  | .p c => some c
  | _ => none
def spDeep : Sp := fun vs H Q _ => ∃ (nl dl fq : Addr) (Ps : List Pic) (nds : List Nd) (xs : List V) (a b c d : Int × Int), vs = [.ref nl, .ref dl, .ref fq] ∧ NodesL H nl Ps nds ∧ H dl = some (.lst (Ps.map fun P => V.int (P.depth : Nat))) ∧ H fq = some (.tup xs) ∧ DvAll H xs ([a, b, c, d].map pairD) ∧
  (∀ x ∈ [a, b, c, d], (0 ≤ x.1 ∧ x.1 < Ps.length) ∧ 0 ≤ x.2 ∧ x.2 < 8) ∧ ∀ H', Same H H' → Q (.int ((Pic.mk (atP Ps a) (atP Ps b) (atP Ps c) (atP Ps d)).depth : Nat)) H'
theorem plain_four {A B C D : Pic} (h : ([A, B, C, D].filterMap plainC).length = 4) : ∃ a b c d, A = .p a ∧ B = .p b ∧ C = .p c ∧ D = .p d ∧ [A, B, C, D].filterMap plainC = [a, b, c, d] := by
  cases A <;> cases B <;> cases C <;> cases D <;> simp [plainC, List.filterMap] at h ⊢
abbrev n_law_deep : List Str := ["_law_nodes_here", "_law_deeps", "_law_four", "_law_shades", "_law_at", "_law_turning"]
abbrev p_law_deep : List Str := ["_law_nodes_here", "_law_deeps", "_law_four"]
theorem sc_law_deep : FnScope n_law_deep p_law_deep (defScope s_law_deep) := ⟨rfl, rfl, rfl, by decide +kernel, rfl, by decide +kernel, by decide +kernel⟩
theorem ok__law_deep {P : Program} {w : World} {K : PySem.W.Frag} {mg : Str → Option Value} {base : Heap} (T : Tb w K mg base) : Fk P w K mg base 1 (He.ga K "_law_deep") p_law_deep (spDeep) := by
  refine Fk.mk' T.f_law_deep sc_law_deep (fun _ _ _ _ _ _ us hl => match us, hl with | [_, _, _], _ => rfl) (by
  intro vs H Q E h
  repeat (first | (obtain ⟨h1, _⟩ := h; subst h1; rfl) | (obtain ⟨_, h⟩ := h))) (fun cdv A outer s H vs Q E hr h => ?_)
  have hu := hu_of hr
  have hu64 := hr.units
  refine ⟨_, (pss_cons (ps_set (i := 3) sc_law_deep.nd rfl (Or.inl rfl) (pe_lst pa_nil))
  (pss_cons (ps_for (passes_of rfl) rfl (k_pit K (pv 2)) (k_pgt (n := 2) K rfl (pgs_cons (pg_name (i := 4) sc_law_deep.nd rfl (Or.inl rfl)) (pgs_cons (pg_name (i := 5) sc_law_deep.nd rfl (Or.inl rfl)) pgs_nil))) (pss_one (ps_if (pt_cmpR (k_eq K hu64) (pe_callB (k_len K) (by rfl) T.ulen (by decide +kernel) (pa_cons (k_ix K (pv 0) (pv 4) (fun _ _ => rfl)) pa_nil)) pe_int (nomark _)) (pss_one (ps_expr (k_bm K PySem.F.plainAttrs_list PySem.F.slot_list_append PySem.F.type_list_append mt_append (pv 3) (pa_cons (k_ix K (k_ix K (pv 0) (pv 4) (fun _ _ => rfl)) pe_int (fun _ _ => rfl)) pa_nil)))) pss_nil)))
  (pss_cons (ps_if (PW.pt (pw_and (pt_cmpR (k_eq K hu64) (pe_callB (k_len K) (by rfl) T.ulen (by decide +kernel) (pa_cons (pv 3) pa_nil)) pe_int (nomark _)) (pw_and1 (pt_cmpR (k_eq K hu64) (pe_callB (k_min K rfl) (by rfl) T.umin (by decide +kernel) (pa_cons (pv 3) pa_nil)) (pe_callB (k_max K rfl) (by rfl) T.umax (by decide +kernel) (pa_cons (pv 3) pa_nil)) (nomark _))))) (pss_one (ps_ret pe_int)) pss_nil)
  (pss_one (ps_ret (pe_op (k_add K) pe_int (pe_callB (k_max K rfl) (by rfl) T.umax (by decide +kernel) (pa_cons (pe_lc (own := [("_law_at", 4), ("_law_turning", 5)]) rfl sc_law_deep.nd (k_pit K (pv 2)) (blkOk_by (own := [("_law_at", 4), ("_law_turning", 5)]) (N := n_law_deep) (sc := defScope s_law_deep) (by decide +kernel)) (fun _ _ _ _ _ => (k_pgt (n := 2) K rfl (pgs_cons (pg_name (i := 4) sc_law_deep.nd rfl (Or.inl rfl)) (pgs_cons (pg_name (i := 5) sc_law_deep.nd rfl (Or.inl rfl)) pgs_nil)))) (fun _ _ _ _ _ => pts_nil) (fun _ _ _ _ _ => (k_ix K (pv 1) (pv 4) (fun _ _ => rfl)))) pa_nil)))))))), ?_⟩
  try dsimp only [cxOf]
  obtain ⟨nl, dl, fq, Ps, nds, xs, a, b, c, d, rfl, hN, hD, hf, hall, hr, q⟩ := h
  have hxl : xs.length = 4 := by rw [hall.len]; rfl
  have go : ∀ (H2 : Hp), Same H H2 → ∀ (k : Nat) (v : V), xs[k]? = some v → ∃ (z : Int × Int) (w : Addr) (r : Pic), ([a, b, c, d] : List (Int × Int))[k]? = some z ∧ v = .ref w ∧ H2 w = some (.tup [.int z.1, .int z.2]) ∧ Ps[z.1.toNat]? = some r ∧ atP Ps z = r.turn z.2 ∧ (0 ≤ z.1 ∧ z.1 < Ps.length) ∧ 0 ≤ z.2 ∧ z.2 < 8 := by
    intro H2 s2 k v e
    obtain ⟨dd, e1, e2⟩ := hall.get e
    rw [List.getElem?_map] at e1
    cases e3 : ([a, b, c, d] : List (Int × Int))[k]? with
    | none => rw [e3] at e1; cases e1
    | some z =>
      rw [e3] at e1
      obtain rfl := Option.some.inj e1
      obtain ⟨w, rfl, hw⟩ := pair_of e2
      have hz := hr z (List.mem_of_getElem? e3)
      obtain ⟨r, hr1, hr2⟩ := atP_get hz.1
      exact ⟨z, w, r, rfl, rfl, s2 _ _ hw, hr1, hr2, hz.1, hz.2⟩
  walk_at "z"
  walk_at "zt"
  rename_i L nL H1 s1 f1
  walk_at "z"
  refine ⟨fq, rfl, ⟨_, SqT.of (s1 _ _ hf)⟩, for_tup (K := K) (a := fq) (xs := xs) (fun i σ H' => Same H H' ∧ H' L = some (.lst ((([a, b, c, d].take i).filterMap fun x => plainC (atP Ps x)).map V.int)) ∧ ∃ u v, σ = [some (.ref nl), some (.ref dl), some (.ref fq), some (.ref L), u, v])
    ⟨s1, f1, none, none, rfl⟩ (fun i σ H' _ h => SqT.of (h.1 _ _ hf)) ?_ ?_⟩
  · rintro i v σ H' hi ⟨s2, f2, u1, u2, rfl⟩
    obtain ⟨z, w, r, e1, rfl, hw, hr1, hr2, hz⟩ := go H' s2 i v hi
    have hi4 : i < 4 := by have := (List.getElem?_eq_some_iff.mp hi).1; omega
    refine z_gTup (SqT.of hw) rfl ?_
    walk_at "z"
    obtain ⟨ws, nq, ys, n, h1, h2, h3, h4, h5, h6, h7⟩ := (hN.same s2).get hr1
    have hat : atI ws z.1 = some (.ref nq) := atI_of h3 (by omega)
    refine z_ixL (SqL.of h1) hat ?_
    walk_at "z"
    refine z_lenT (SqT.of h4) ?_
    walk_at "z"
    rcases h7 with ⟨cc, rfl, rfl, rfl⟩ | ⟨pa, pb, pc, pd, rfl, rfl, hr4, hl4, hall4⟩
    · refine z_yes (by rfl) ?_
      walk_at "z"
      refine z_tyL (SqL.of f2) ?_
      walk_at "z"
      refine z_ixL (SqL.of h1) hat ?_
      walk_at "z"
      refine z_ixT (SqT.of h4) (by rfl) ?_
      walk_at "z"
      have hlen : (([a, b, c, d].take i).filterMap fun x => plainC (atP Ps x)).length ≤ 4 := Nat.le_trans (List.length_filterMap_le _ _) (by simp; omega)
      refine z_app f2 (by rw [List.length_map]; exact szlt (by omega)) ?_
      refine ⟨s2.set nL, ?_, _, _, rfl⟩
      rw [upd_same, List.take_add_one, e1]
      simp [List.filterMap_append, hr2, Pic.turn, plainC]
    · refine z_no (by rw [hl4]; decide) ?_
      walk_at "z"
      refine ⟨s2, ?_, _, _, rfl⟩
      rw [f2, List.take_add_one, e1]
      simp [List.filterMap_append, hr2, Pic.turn, plainC]
  · rintro σ H' ⟨s2, f2, u1, u2, rfl⟩
    rw [hxl] at f2
    have e4 : (([a, b, c, d].take 4).filterMap fun x => plainC (atP Ps x)) = [atP Ps a, atP Ps b, atP Ps c, atP Ps d].filterMap plainC := by simp [List.filterMap_cons]
    rw [e4] at f2
    have rest : ¬ (atP Ps a = atP Ps b ∧ atP Ps b = atP Ps c ∧ atP Ps c = atP Ps d ∧ (atP Ps a).depth = 0) → ∀ R : TS, True := fun _ _ => trivial
    have qd : ∀ H2, Same H' H2 → Q (.int ((Pic.mk (atP Ps a) (atP Ps b) (atP Ps c) (atP Ps d)).depth : Nat)) H2 := fun H2 s3 => q H2 (s2.trans s3)
    walk_at "z"
    refine z_lenL (SqL.of f2) ?_
    walk_at "z"
    rw [List.length_map]
    refine z_ite (fun c1 => ?_) (fun c1 => ?_)
    · walk_at "z"
      have h4 : ([atP Ps a, atP Ps b, atP Ps c, atP Ps d].filterMap plainC).length = 4 := by omega
      refine z_min (SqL.of f2) (by omega) fun m1 hm1 hl1 => ?_
      walk_at "z"
      refine z_max (SqL.of f2) (by omega) fun m2 hm2 hl2 => ?_
      walk_at "z"
      rcases Decidable.em (m1 = m2) with c2 | c2
      · refine z_yes c2 ?_
        walk_at "z"
        obtain ⟨ca, cb, cc, cd, ea, eb, ec, ed, el⟩ := plain_four h4
        rw [el] at hm1 hl1 hm2 hl2
        have h1 := hl1 ca (by simp)
        have h2 := hl1 cb (by simp)
        have h3 := hl1 cc (by simp)
        have h4 := hl1 cd (by simp)
        have g1 := hl2 ca (by simp)
        have g2 := hl2 cb (by simp)
        have g3 := hl2 cc (by simp)
        have g4 := hl2 cd (by simp)
        have e1 : ca = cb := by omega
        have e2 : cb = cc := by omega
        have e3 : cc = cd := by omega
        subst e1 e2 e3
        have e9 : (Pic.mk (atP Ps a) (atP Ps b) (atP Ps c) (atP Ps d)).depth = 0 := by rw [ea, eb, ec, ed]; simp [Pic.mk, Pic.depth]
        have := qd H' (Same.refl _)
        rw [e9] at this
        exact this
      · refine z_no c2 ?_
        have hne : ¬ (atP Ps a = atP Ps b ∧ atP Ps b = atP Ps c ∧ atP Ps c = atP Ps d ∧ (atP Ps a).depth = 0) := by
          rintro ⟨e1, e2, e3, e4⟩
          obtain ⟨cc, ec⟩ := depth_zero e4
          rw [← e3, ← e2, ← e1, ec] at hm1 hm2
          simp [plainC] at hm1 hm2
          omega
        have hmk : (Pic.mk (atP Ps a) (atP Ps b) (atP Ps c) (atP Ps d)) = .q (atP Ps a) (atP Ps b) (atP Ps c) (atP Ps d) := if_neg hne
        rw [hmk] at qd
        walk_at "z"
        refine ⟨fq, rfl, ⟨_, SqT.of (s2 _ _ hf)⟩, fun M hM => ?_⟩
        refine lc_tup (K := K) (a := fq) (xs := xs) (fun i H2 => Same H' H2 ∧ H2 M = some (.lst (([a, b, c, d].take i).map fun x => V.int ((atP Ps x).depth : Nat)))) ⟨Same.new hM, upd_same⟩ (fun i H2 _ h => SqT.of (h.1 _ _ (s2 _ _ hf))) ?_ ?_
        · rintro i v H2 hi ⟨s3, f3⟩
          obtain ⟨z, w, r, e1, rfl, hw, hr1, hr2, hz⟩ := go H2 (s2.trans s3) i v hi
          have hi4 : i < 4 := by have := (List.getElem?_eq_some_iff.mp hi).1; omega
          walk_at "zw"
          refine z_gTup (SqT.of hw) rfl ?_
          walk_at "z"
          refine ⟨rfl, ?_⟩
          walk_at "z"
          refine z_ixL (SqL.of (s3 _ _ (s2 _ _ hD))) (atI_of (n := z.1.toNat) (v := .int (r.depth : Nat)) (by rw [List.getElem?_map, hr1]; rfl) (by omega)) ?_
          refine ⟨_, f3, szlt (by simp; omega), s3.set hM, ?_⟩
          rw [upd_same, List.take_add_one, e1]
          simp [hr2, turn_depth hz.2.1 hz.2.2]
        · rintro H2 ⟨s3, f3⟩
          rw [hxl] at f3
          have f4 : H2 M = some (.lst ([((atP Ps a).depth : Int), ((atP Ps b).depth : Int), ((atP Ps c).depth : Int), ((atP Ps d).depth : Int)].map V.int)) := f3
          walk_at "z"
          refine z_max (SqL.of f4) (by simp) fun m hm hl => ?_
          walk_at "z"
          have g1 := hl _ (List.mem_cons_self ..)
          have g2 := hl ((atP Ps b).depth : Int) (by simp)
          have g3 := hl ((atP Ps c).depth : Int) (by simp)
          have g4 := hl ((atP Ps d).depth : Int) (by simp)
          have e9 : (1 : Int) + m = ((Pic.q (atP Ps a) (atP Ps b) (atP Ps c) (atP Ps d)).depth : Nat) := by
            simp only [Pic.depth]
            simp only [List.mem_cons, List.not_mem_nil, or_false] at hm
            omega
          rw [e9]
          exact qd H2 s3
    · walk_at "z"
      have hne : ¬ (atP Ps a = atP Ps b ∧ atP Ps b = atP Ps c ∧ atP Ps c = atP Ps d ∧ (atP Ps a).depth = 0) := by
        rintro ⟨e1, e2, e3, e4⟩
        obtain ⟨cc, ec⟩ := depth_zero e4
        rw [← e3, ← e2, ← e1, ec] at c1
        simp [plainC] at c1
      have hmk : (Pic.mk (atP Ps a) (atP Ps b) (atP Ps c) (atP Ps d)) = .q (atP Ps a) (atP Ps b) (atP Ps c) (atP Ps d) := if_neg hne
      rw [hmk] at qd
      walk_at "z"
      refine ⟨fq, rfl, ⟨_, SqT.of (s2 _ _ hf)⟩, fun M hM => ?_⟩
      refine lc_tup (K := K) (a := fq) (xs := xs) (fun i H2 => Same H' H2 ∧ H2 M = some (.lst (([a, b, c, d].take i).map fun x => V.int ((atP Ps x).depth : Nat)))) ⟨Same.new hM, upd_same⟩ (fun i H2 _ h => SqT.of (h.1 _ _ (s2 _ _ hf))) ?_ ?_
      · rintro i v H2 hi ⟨s3, f3⟩
        obtain ⟨z, w, r, e1, rfl, hw, hr1, hr2, hz⟩ := go H2 (s2.trans s3) i v hi
        have hi4 : i < 4 := by have := (List.getElem?_eq_some_iff.mp hi).1; omega
        walk_at "zw"
        refine z_gTup (SqT.of hw) rfl ?_
        walk_at "z"
        refine ⟨rfl, ?_⟩
        walk_at "z"
        refine z_ixL (SqL.of (s3 _ _ (s2 _ _ hD))) (atI_of (n := z.1.toNat) (v := .int (r.depth : Nat)) (by rw [List.getElem?_map, hr1]; rfl) (by omega)) ?_
        refine ⟨_, f3, szlt (by simp; omega), s3.set hM, ?_⟩
        rw [upd_same, List.take_add_one, e1]
        simp [hr2, turn_depth hz.2.1 hz.2.2]
      · rintro H2 ⟨s3, f3⟩
        rw [hxl] at f3
        have f4 : H2 M = some (.lst ([((atP Ps a).depth : Int), ((atP Ps b).depth : Int), ((atP Ps c).depth : Int), ((atP Ps d).depth : Int)].map V.int)) := f3
        walk_at "z"
        refine z_max (SqL.of f4) (by simp) fun m hm hl => ?_
        walk_at "z"
        have g1 := hl _ (List.mem_cons_self ..)
        have g2 := hl ((atP Ps b).depth : Int) (by simp)
        have g3 := hl ((atP Ps c).depth : Int) (by simp)
        have g4 := hl ((atP Ps d).depth : Int) (by simp)
        have e9 : (1 : Int) + m = ((Pic.q (atP Ps a) (atP Ps b) (atP Ps c) (atP Ps d)).depth : Nat) := by
          simp only [Pic.depth]
          simp only [List.mem_cons, List.not_mem_nil, or_false] at hm
          omega
        rw [e9]
        exact qd H2 s3
def spNeed (C N : Addr) : Sp := fun vs H Q E => ∃ p A D ps, ∃ f : Int, vs = [.ref p, .int f] ∧ FacesAt C H p A D ps ∧ ((0 ≤ f ∧ f < ps.length) → Q .non H) ∧ (¬ (0 ≤ f ∧ f < ps.length) → E (.ref N) none H)
abbrev nFaces_need : List Str := ["self", "face"]
abbrev pFaces_need : List Str := ["self", "face"]
theorem scFaces_need : FnScope nFaces_need pFaces_need (defScope sFaces_need) := ⟨rfl, rfl, rfl, by decide +kernel, rfl, by decide +kernel, by decide +kernel⟩
theorem ok_Faces_need {P : Program} {w : World} {K : PySem.W.Frag} {mg : Str → Option Value} {base : Heap} (T : Tb w K mg base) : Fk P w K mg base 1 (He.ma K (He.ga K "Faces") "need") pFaces_need (spNeed (He.ga K "Faces") (He.ga K "NoFace")) := by
  refine Fk.mk' T.fFaces_need scFaces_need (fun _ _ _ _ _ _ us hl => match us, hl with | [_, _], _ => rfl) (by
  intro vs H Q E h
  repeat (first | (obtain ⟨h1, _⟩ := h; subst h1; rfl) | (obtain ⟨_, h⟩ := h))) (fun cdv A outer s H vs Q E hr h => ?_)
  have hu := hu_of hr
  have hu64 := hr.units
  refine ⟨_, (pss_one (ps_if (PW.pt (pw_or (pt_cmpR op_lt (pv 1) pe_int (nomark _)) (pw_or1 (pt_cmpR op_ge (pv 1) (pe_callB (k_len K) (by rfl) T.ulen (by decide +kernel) (pa_cons (k_fld K (pv 0) rfl) pa_nil)) (nomark _))))) (pss_one (ps_raise rfl takesX (pmk_own PySem.F.excBase_ValueError T.eNoFace.1 T.gNoFace T.eNoFace.2.1 (raises_own T.eNoFace.2.2.1 T.eNoFace.2.2.2) (by rfl)))) pss_nil)), ?_⟩
  try dsimp only [cxOf]
  obtain ⟨p, A, D, ps, f, rfl, hF, q, e⟩ := h
  obtain ⟨dx, ob⟩ := hF.ob
  obtain ⟨ns, hn, hl⟩ := hF.len
  walk_at "z"
  refine z_ite (fun c => ?_) (fun c => ?_)
  · walk_at "z"
    exact e (by omega)
  · walk_at "z"
    refine z_fldR ob T.cFaces T.aFaces_nodes lkFaces_nodes ?_
    walk_at "z"
    refine z_lenL (SqL.of hn) ?_
    walk_at "z"
    rw [List.length_map, hl]
    refine z_ite (fun c2 => ?_) (fun c2 => ?_)
    · walk_at "z"
      exact e (by omega)
    · walk_at "z"
      exact q (by omega)
def spArea : Sp := fun vs H Q _ => ∃ d : Nat, vs = [.int (d : Nat)] ∧ d ≤ 1000 ∧ Q (.int (4 ^ d)) H
abbrev narea : List Str := ["depth"]
abbrev parea : List Str := ["depth"]
theorem scarea : FnScope narea parea (defScope sarea) := ⟨rfl, rfl, rfl, by decide +kernel, rfl, by decide +kernel, by decide +kernel⟩
theorem ok_area {P : Program} {w : World} {K : PySem.W.Frag} {mg : Str → Option Value} {base : Heap} (T : Tb w K mg base) : Fk P w K mg base 1 (He.ga K "area") parea (spArea) := by
  refine Fk.mk' T.farea scarea (fun _ _ _ _ _ _ us hl => match us, hl with | [_], _ => rfl) (by
  intro vs H Q E h
  repeat (first | (obtain ⟨h1, _⟩ := h; subst h1; rfl) | (obtain ⟨_, h⟩ := h))) (fun cdv A outer s H vs Q E hr h => ?_)
  have hu := hu_of hr
  have hu64 := hr.units
  refine ⟨_, (pss_one (ps_ret (pe_op op_shl pe_int (pe_op op_mulU pe_int (pv 0))))), ?_⟩
  try dsimp only [cxOf]
  obtain ⟨d, rfl, hd, q⟩ := h
  walk_at "z"
  refine z_mulI (mulS (by decide) (by omega)) ?_
  walk_at "z"
  refine z_I ⟨by omega, by omega, by decide⟩ ?_
  walk_at "z"
  have e : (1 : Int) * 2 ^ (2 * (d : Int)).toNat = 4 ^ d := by
    have e1 : (2 * (d : Int)).toNat = 2 * d := by omega
    rw [e1, Int.one_mul, Int.pow_mul]
    rfl
  rw [e]
  exact q
def fourMax (A B C D : Pic) : Nat := max (max A.depth B.depth) (max C.depth D.depth)
def spFour (C N TD : Addr) : Sp := fun vs H Q E => ∃ p A D ps, ∃ a b c d : Int, vs = [.ref p, .int a, .int b, .int c, .int d] ∧ FacesAt C H p A D ps ∧ ps.length < 100000 ∧
  (¬ ((0 ≤ a ∧ a < ps.length) ∧ (0 ≤ b ∧ b < ps.length) ∧ (0 ≤ c ∧ c < ps.length) ∧ (0 ≤ d ∧ d < ps.length)) → ∀ H', Same H H' → E (.ref N) none H') ∧
  (∀ PA PB PC PD, IsF ps a PA → IsF ps b PB → IsF ps c PC → IsF ps d PD →
    (12 < (Pic.mk PA PB PC PD).depth → ∀ H', Same H H' → E (.ref TD) none H') ∧
    ((Pic.mk PA PB PC PD).depth ≤ 12 → After C H p A D (addP ps (Pic.mk PA PB PC PD)) fun H' => Q (.int (ix (addP ps (Pic.mk PA PB PC PD)) (Pic.mk PA PB PC PD) : Nat)) H'))
abbrev nFaces_four : List Str := ["self", "a", "b", "c", "d", "face", "deep", "sums", "colour"]
abbrev pFaces_four : List Str := ["self", "a", "b", "c", "d"]
theorem scFaces_four : FnScope nFaces_four pFaces_four (defScope sFaces_four) := ⟨rfl, rfl, rfl, by decide +kernel, rfl, by decide +kernel, by decide +kernel⟩
theorem ok_Faces_four {P : Program} {w : World} {K : PySem.W.Frag} {mg : Str → Option Value} {base : Heap} (T : Tb w K mg base) : Fk P w K mg base 2 (He.ma K (He.ga K "Faces") "four") pFaces_four (spFour (He.ga K "Faces") (He.ga K "NoFace") (He.ga K "TooDeep")) := by
  have GFaces_stored := ok_Faces_stored (P := P) (w := w) (base := base) T
  have GFaces_need := ok_Faces_need (P := P) (w := w) (base := base) T
  have Garea := ok_area (P := P) (w := w) (base := base) T
  refine Fk.mk' T.fFaces_four scFaces_four (fun _ _ _ _ _ _ us hl => match us, hl with | [_, _, _, _, _], _ => rfl) (by
  intro vs H Q E h
  repeat (first | (obtain ⟨h1, _⟩ := h; subst h1; rfl) | (obtain ⟨_, h⟩ := h))) (fun cdv A outer s H vs Q E hr h => ?_)
  have hu := hu_of hr
  have hu64 := hr.units
  refine ⟨_, (pss_cons (ps_for (passes_of rfl) rfl (k_pit K (pe_tup (pa_cons (pv 1) (pa_cons (pv 2) (pa_cons (pv 3) (pa_cons (pv 4) pa_nil)))))) (pg_name (i := 5) scFaces_four.nd rfl (Or.inl rfl)) (pss_one (ps_expr (q_meth (pv 0) T.cFaces T.mFaces_need GFaces_need (hr.mono (by omega)) passX (pa_cons (pv 5) pa_nil)))))
  (pss_cons (ps_if (PW.pt (pw_and (pt_cmpR (k_eq K hu64) (pv 1) (pv 2) (nomark _)) (pw_and (pt_cmpR (k_eq K hu64) (pv 2) (pv 3) (nomark _)) (pw_and (pt_cmpR (k_eq K hu64) (pv 3) (pv 4) (nomark _)) (pw_and1 (pt_cmpR (k_eq K hu64) (k_ix K (k_fld K (pv 0) rfl) (pv 1) (fun _ _ => rfl)) pe_int (nomark _))))))) (pss_one (ps_ret (pv 1))) pss_nil)
  (pss_cons (ps_set (i := 6) scFaces_four.nd rfl (Or.inl rfl) (pe_callB (k_max K rfl) (by rfl) T.umax (by decide +kernel) (pa_cons (pe_lc (own := [("face", 5)]) (g := gName 5) rfl scFaces_four.nd (k_pit K (pe_tup (pa_cons (pv 1) (pa_cons (pv 2) (pa_cons (pv 3) (pa_cons (pv 4) pa_nil)))))) (blkOk_by (own := [("face", 5)]) (N := nFaces_four) (sc := defScope sFaces_four) (by decide +kernel)) (fun _ _ _ _ _ => pg_name (i := 5) scFaces_four.nd rfl (Or.inl rfl)) (fun _ _ _ _ _ => pts_nil) (fun _ _ _ _ _ => (k_ix K (k_fld K (pv 0) rfl) (pv 5) (fun _ _ => rfl)))) pa_nil)))
  (pss_cons (ps_if (pt_cmpR op_ge (pv 6) (q_int T.iDEEPEST) (nomark _)) (pss_one (ps_raise rfl takesX (pmk_own PySem.F.excBase_ValueError T.eTooDeep.1 T.gTooDeep T.eTooDeep.2.1 (raises_own T.eTooDeep.2.2.1 T.eTooDeep.2.2.2) (by rfl)))) pss_nil)
  (pss_cons (ps_set (i := 7) scFaces_four.nd rfl (Or.inl rfl) (pe_op op_mulU (pe_lst (pa_cons pe_int pa_nil)) (q_int T.iCOLOURS)))
  (pss_cons (ps_for (passes_of rfl) rfl (k_pit K (pe_tup (pa_cons (pv 1) (pa_cons (pv 2) (pa_cons (pv 3) (pa_cons (pv 4) pa_nil)))))) (pg_name (i := 5) scFaces_four.nd rfl (Or.inl rfl)) (pss_one (ps_for (passes_of rfl) rfl (pi_range1 (by rfl) T.urange (pa_cons (q_int T.iCOLOURS) pa_nil)) (pg_name (i := 8) scFaces_four.nd rfl (Or.inl rfl)) (pss_one (ps_augS (pv 7) (pv 8) (k_get K) (pe_op op_mulU (k_ix K (k_ix K (k_fld K (pv 0) rfl) (pv 5) (fun _ _ => rfl)) (pv 8) (fun _ _ => rfl)) (q_call Garea (hr.mono (by omega)) T.garea passX (pa_cons (pe_op op_sub (pv 6) (k_ix K (k_fld K (pv 0) rfl) (pv 5) (fun _ _ => rfl))) pa_nil))) ip_add set_list)))))
  (pss_one (ps_ret (q_meth (pv 0) T.cFaces T.mFaces_stored GFaces_stored (hr.mono (by omega)) passX (pa_cons (pe_tup (pa_cons (pv 1) (pa_cons (pv 2) (pa_cons (pv 3) (pa_cons (pv 4) pa_nil))))) (pa_cons (pe_op (k_add K) (pv 6) pe_int) (pa_cons (pv 7) pa_nil)))))))))))), ?_⟩
  try dsimp only [cxOf]
  obtain ⟨p, A, D, ps, a, b, c, d, rfl, hF, hl, e, q⟩ := h
  obtain ⟨dx, ob⟩ := hF.ob
  walk_at "z"
  walk_at "zt"
  rename_i tp hp1 H1 s1 f1
  have hF1 := hF.same s1
  walk_at "z"
  refine ⟨tp, rfl, ⟨_, SqT.of f1⟩, for_tup (K := K) (a := tp) (xs := [V.int a, V.int b, V.int c, V.int d]) (fun i σ H' => H' = H1 ∧ (∀ j z, j < i → ([a, b, c, d] : List Int)[j]? = some z → 0 ≤ z ∧ z < ps.length) ∧ ∃ v, σ = [some (.ref p), some (.int a), some (.int b), some (.int c), some (.int d), v, none, none, none])
    ⟨rfl, fun j z h => absurd h (Nat.not_lt_zero _), none, rfl⟩ (fun i σ H' _ h => by rw [h.1]; exact SqT.of f1) ?_ ?_⟩
  · rintro i x σ H' hi ⟨rfl, hv, v, rfl⟩
    have hi4 : i < 4 := by have := (List.getElem?_eq_some_iff.mp hi).1; simpa using this
    obtain ⟨z, hz, rfl⟩ : ∃ z : Int, ([a, b, c, d] : List Int)[i]? = some z ∧ x = .int z := by
      have hm : ([V.int a, V.int b, V.int c, V.int d] : List V) = ([a, b, c, d] : List Int).map V.int := rfl
      rw [hm, List.getElem?_map] at hi
      cases r : ([a, b, c, d] : List Int)[i]? with
      | none => rw [r] at hi; cases hi
      | some z => rw [r] at hi; exact ⟨z, rfl, (Option.some.inj hi).symm⟩
    walk_at "z"
    refine z_methR (s1 _ _ ob) noFaces_need ?_
    walk_at "z"
    refine ⟨p, A, D, ps, z, rfl, hF1, fun hz2 => ?_, fun hz2 => ?_⟩
    · refine ⟨rfl, fun j y hj ey => ?_, _, rfl⟩
      by_cases hji : j = i
      · subst hji
        rw [hz] at ey
        cases ey
        exact hz2
      · exact hv j y (by omega) ey
    · refine e (fun hall => hz2 ?_) _ s1
      have : i = 0 ∨ i = 1 ∨ i = 2 ∨ i = 3 := by omega
      rcases this with rfl | rfl | rfl | rfl <;> simp at hz <;> subst hz <;> simp [hall]
  · rintro σ H' ⟨rfl, hv, v, rfl⟩
    obtain ⟨PA, hA⟩ := IsF.ex (hv 0 a (by simp) rfl).1 (hv 0 a (by simp) rfl).2
    obtain ⟨PB, hB⟩ := IsF.ex (hv 1 b (by simp) rfl).1 (hv 1 b (by simp) rfl).2
    obtain ⟨PC, hC⟩ := IsF.ex (hv 2 c (by simp) rfl).1 (hv 2 c (by simp) rfl).2
    obtain ⟨PD, hD⟩ := IsF.ex (hv 3 d (by simp) rfl).1 (hv 3 d (by simp) rfl).2
    obtain ⟨qd, qk⟩ := q PA PB PC PD hA hB hC hD
    have ea := hA.eq hF.inv.nd
    have eb := hB.eq hF.inv.nd
    have ec := hC.eq hF.inv.nd
    have ed := hD.eq hF.inv.nd
    have same : (a = b ∧ b = c ∧ c = d ∧ (PA.depth : Int) = 0) ↔ (PA = PB ∧ PB = PC ∧ PC = PD ∧ PA.depth = 0) := by
      constructor
      · rintro ⟨rfl, rfl, rfl, h0⟩
        exact ⟨hA.inj hB, hB.inj hC, hC.inj hD, by omega⟩
      · rintro ⟨rfl, rfl, rfl, h0⟩
        exact ⟨by rw [ea, eb], by rw [eb, ec], by rw [ec, ed], by omega⟩
    walk_at "z1"
    walk_at "z1"
    refine z_ans (decide (a = b ∧ b = c ∧ c = d ∧ (PA.depth : Int) = 0)) (fun R hR => ?_) ?_
    · walk_at "z"
      refine z_ite (fun c1 => ?_) (fun c1 => ?_)
      · walk_at "z"
        refine z_ite (fun c2 => ?_) (fun c2 => ?_)
        · walk_at "z"
          refine z_ite (fun c3 => ?_) (fun c3 => ?_)
          · walk_at "z"
            refine z_fldR (s1 _ _ ob) T.cFaces T.aFaces_depths lkFaces_depths ?_
            walk_at "z"
            refine z_ixL (SqL.of hF1.depths) (FacesAt.depthAt hA) ?_
            walk_at "z"
            have : decide (a = b ∧ b = c ∧ c = d ∧ (PA.depth : Int) = 0) = decide ((PA.depth : Int) = 0) := by simp [c1, c2, c3]
            rw [this] at hR
            exact hR
          · have : decide (a = b ∧ b = c ∧ c = d ∧ (PA.depth : Int) = 0) = false := by simp [c3]
            rw [this] at hR
            exact hR
        · have : decide (a = b ∧ b = c ∧ c = d ∧ (PA.depth : Int) = 0) = false := by simp [c2]
          rw [this] at hR
          exact hR
      · have : decide (a = b ∧ b = c ∧ c = d ∧ (PA.depth : Int) = 0) = false := by simp [c1]
        rw [this] at hR
        exact hR
    refine z_ite (fun c1 => ?_) (fun c1 => ?_)
    · walk_at "z"
      have em : Pic.mk PA PB PC PD = PA := by unfold Pic.mk; rw [if_pos (same.mp c1)]
      have hmem := hA.mem
      have eadd : addP ps PA = ps := if_pos hmem
      rw [em, eadd] at qk
      rw [ea]
      exact qk (by have := same.mp c1; omega) _ D s1.keep hF1 (fun _ h => h) fun b h => .inl h
    have em : Pic.mk PA PB PC PD = .q PA PB PC PD := by unfold Pic.mk; rw [if_neg (fun z => c1 (same.mpr z))]
    rw [em] at qd qk
    walk_at "z"
    walk_at "zt"
    rename_i tp2 hp2 H2 s2 f2
    have hF2 := hF1.same s2
    walk_at "z"
    refine ⟨tp2, rfl, ⟨_, SqT.of f2⟩, fun L hL => ?_⟩
    refine lc_tup (K := K) (a := tp2) (xs := [V.int a, V.int b, V.int c, V.int d]) (fun i H' => H' = upd H2 L (.lst ((([PA.depth, PB.depth, PC.depth, PD.depth] : List Nat).take i).map fun n => V.int (n : Nat)))) rfl (fun i H' _ h => by rw [h]; exact (Same.new hL).tup (SqT.of f2)) ?_ ?_
    · rintro i x H' hi rfl
      have hi4 : i < 4 := by have := (List.getElem?_eq_some_iff.mp hi).1; simpa using this
      obtain ⟨z, P, hz, hP, hn, rfl⟩ : ∃ (z : Int) (P : Pic), IsF ps z P ∧ ([PA.depth, PB.depth, PC.depth, PD.depth] : List Nat)[i]? = some P.depth ∧ True ∧ x = .int z := by
        have : i = 0 ∨ i = 1 ∨ i = 2 ∨ i = 3 := by omega
        rcases this with rfl | rfl | rfl | rfl <;> simp at hi <;> subst hi
        · exact ⟨a, PA, hA, rfl, trivial, rfl⟩
        · exact ⟨b, PB, hB, rfl, trivial, rfl⟩
        · exact ⟨c, PC, hC, rfl, trivial, rfl⟩
        · exact ⟨d, PD, hD, rfl, trivial, rfl⟩
      walk_at "zw"
      walk_at "z"
      refine ⟨rfl, ?_⟩
      walk_at "z"
      have hF3 := hF2.same (Same.new (o := .lst ((([PA.depth, PB.depth, PC.depth, PD.depth] : List Nat).take i).map fun n => V.int (n : Nat))) hL)
      obtain ⟨dx3, ob3⟩ := hF3.ob
      refine z_fldR ob3 T.cFaces T.aFaces_depths lkFaces_depths ?_
      walk_at "z"
      refine z_ixL (SqL.of hF3.depths) (FacesAt.depthAt hz) ?_
      refine ⟨_, upd_same, szlt (by simp; omega), ?_⟩
      rw [upd_upd]
      have et : (([PA.depth, PB.depth, PC.depth, PD.depth] : List Nat).take (i + 1)) = (([PA.depth, PB.depth, PC.depth, PD.depth] : List Nat).take i) ++ [P.depth] := by
        rw [List.take_add_one, hP]
        rfl
      rw [et, List.map_append]
      rfl
    rintro H' rfl
    have s3 : Same H2 (upd H2 L (.lst ((([PA.depth, PB.depth, PC.depth, PD.depth] : List Nat).take [V.int a, V.int b, V.int c, V.int d].length).map fun n => V.int (n : Nat)))) := Same.new hL
    have f3 : (upd H2 L (.lst ((([PA.depth, PB.depth, PC.depth, PD.depth] : List Nat).take [V.int a, V.int b, V.int c, V.int d].length).map fun n => V.int (n : Nat)))) L = some (.lst (([(PA.depth : Int), (PB.depth : Int), (PC.depth : Int), (PD.depth : Int)] : List Int).map V.int)) := upd_same
    generalize upd H2 L _ = H3 at s3 f3 ⊢
    walk_at "z"
    refine z_max (ns := [(PA.depth : Int), (PB.depth : Int), (PC.depth : Int), (PD.depth : Int)]) (SqL.of f3) (by simp) (fun m hm hle => ?_)
    have em2 : m = (fourMax PA PB PC PD : Nat) := by
      unfold fourMax
      have h1 := hle PA.depth (by simp)
      have h2 := hle PB.depth (by simp)
      have h3 := hle PC.depth (by simp)
      have h4 := hle PD.depth (by simp)
      simp at hm
      omega
    subst em2
    have edep : (Pic.q PA PB PC PD).depth = fourMax PA PB PC PD + 1 := by simp [Pic.depth, fourMax]; omega
    walk_at "z"
    refine z_ite (fun c2 => ?_) (fun c2 => ?_)
    · walk_at "z"
      exact qd (by omega) _ (s1.trans (s2.trans s3))
    have hm12 : fourMax PA PB PC PD < 12 := by omega
    generalize hm0 : fourMax PA PB PC PD = m at *
    walk_at "z"
    refine ⟨sz1000 (by simp), fun l0 hl0 => ?_⟩
    walk_at "z"
    refine z_mulL upd_same (by decide) (by decide) (sz1000 (by simp)) (fun S hS => ?_)
    have ez : (List.replicate (Int.toNat 10) [V.int 0]).flatten = (List.range 10).map fun k => V.int (part4 m [] k + if k < 0 then term4 m PA k else 0) := by simp [part4, List.range_succ, List.replicate]
    rw [ez]
    have hS3 : H3 S = none := by
      by_cases hh : S = l0
      · subst hh; exact hl0
      · rw [upd_ne hh] at hS; exact hS
    have s4 : Same H3 (upd (upd H3 l0 (.lst [V.int 0])) S (.lst ((List.range 10).map fun k => V.int (part4 m [] k + if k < 0 then term4 m PA k else 0)))) := (Same.new hl0).set hS3
    have f4 : (upd (upd H3 l0 (.lst [V.int 0])) S (.lst ((List.range 10).map fun k => V.int (part4 m [] k + if k < 0 then term4 m PA k else 0)))) S = some (.lst ((List.range 10).map fun k => V.int (part4 m [] k + if k < 0 then term4 m PA k else 0))) := upd_same
    generalize upd (upd H3 l0 _) S _ = H4 at s4 f4 ⊢
    have sH3 : Same H H3 := s1.trans (s2.trans s3)
    have hS0 : H S = none := sH3.free hS3
    walk_at "z"
    walk_at "zt"
    rename_i tp3 hp3 H5 s5 f5
    have fS5 := s5 _ _ f4
    walk_at "z"
    refine ⟨tp3, rfl, ⟨_, SqT.of f5⟩, for_tup (K := K) (a := tp3) (xs := [V.int a, V.int b, V.int c, V.int d]) (fun i σ H' => Same H H' ∧ H' tp3 = some (.tup [V.int a, V.int b, V.int c, V.int d]) ∧ H' S = some (.lst ((List.range 10).map fun k => V.int (part4 m (([PA, PB, PC, PD] : List Pic).take i) k)))
      ∧ ∃ v w, σ = [some (.ref p), some (.int a), some (.int b), some (.int c), some (.int d), v, some (.int (m : Nat)), some (.ref S), w])
      ⟨(sH3.trans s4).trans s5, f5, ?_, _, _, rfl⟩ (fun i σ H' _ h => SqT.of h.2.1) ?_ ?_⟩
    · rw [fS5]
      simp
    · rintro i x σ H' hi ⟨t1, t2, t3, v, w, rfl⟩
      have hi4 : i < 4 := by have := (List.getElem?_eq_some_iff.mp hi).1; simpa using this
      obtain ⟨z, P, hz, hP, rfl⟩ : ∃ (z : Int) (P : Pic), IsF ps z P ∧ ([PA, PB, PC, PD] : List Pic)[i]? = some P ∧ x = .int z := by
        have : i = 0 ∨ i = 1 ∨ i = 2 ∨ i = 3 := by omega
        rcases this with rfl | rfl | rfl | rfl <;> simp at hi <;> subst hi
        · exact ⟨a, PA, hA, rfl, rfl⟩
        · exact ⟨b, PB, hB, rfl, rfl⟩
        · exact ⟨c, PC, hC, rfl, rfl⟩
        · exact ⟨d, PD, hD, rfl, rfl⟩
      have hPm : P.depth ≤ m := by
        have : i = 0 ∨ i = 1 ∨ i = 2 ∨ i = 3 := by omega
        rcases this with rfl | rfl | rfl | rfl <;> simp at hP <;> subst hP <;> rw [← hm0] <;> simp only [fourMax] <;> omega
      have et : (([PA, PB, PC, PD] : List Pic).take (i + 1)) = (([PA, PB, PC, PD] : List Pic).take i) ++ [P] := by
        rw [List.take_add_one, hP]
        rfl
      walk_at "z"
      refine ⟨_, rfl, by decide, by decide, ?_⟩
      refine for_range (fun k σ H' => Same H H' ∧ H' tp3 = some (.tup [V.int a, V.int b, V.int c, V.int d]) ∧ H' S = some (.lst ((List.range 10).map fun j => V.int (part4 m (([PA, PB, PC, PD] : List Pic).take i) j + if j < k then term4 m P j else 0)))
        ∧ ∃ w, σ = [some (.ref p), some (.int a), some (.int b), some (.int c), some (.int d), some (.int z), some (.int (m : Nat)), some (.ref S), w]) ⟨t1, t2, by rw [t3]; simp, _, rfl⟩ ?_ ?_
      · rintro k σ H6 hk ⟨u1, u2, u3, w, rfl⟩
        have hk10 : k < 10 := by omega
        have hF6 := hF.same u1
        obtain ⟨dx6, ob6⟩ := hF6.ob
        obtain ⟨ss, hs, hsl, hs3⟩ := hF6.sums
        have hlt : z.toNat < ss.length := by have := (List.getElem?_eq_some_iff.mp hz.2).1; omega
        obtain ⟨da, nfa, ha⟩ := hs3 z.toNat _ P (List.getElem?_eq_getElem hlt) hz.2
        walk_at "z"
        refine z_getL (n := k) (SqL.of u3) (by omega) (by rw [List.getElem?_map, List.getElem?_range hk10]; rfl) ?_
        walk_at "z"
        refine z_fldR ob6 T.cFaces T.aFaces_sums lkFaces_sums ?_
        walk_at "z"
        refine z_ixL (SqL.of hs) (atI_of (n := z.toNat) (v := .ref (ss[z.toNat])) (by rw [List.getElem?_map, List.getElem?_eq_getElem hlt]; rfl) (by have := hz.1; omega)) ?_
        walk_at "z"
        refine z_ixL (SqL.of ha) (atI_of (n := k) (v := .int (P.cnt (k : Int))) (by simp [Pic.sums, hk10]) (by omega)) ?_
        walk_at "z"
        refine z_fldR ob6 T.cFaces T.aFaces_depths lkFaces_depths ?_
        walk_at "z"
        refine z_ixL (SqL.of hF6.depths) (FacesAt.depthAt hz) ?_
        walk_at "z"
        refine ⟨m - P.depth, by
          have : ((m : Nat) : Int) - (P.depth : Nat) = ((m - P.depth : Nat) : Int) := by omega
          rw [this]
          rfl, by omega, ?_⟩
        have hb := cnt_bd P (k : Int)
        have hd12 : P.depth ≤ 12 := by omega
        have h24 : (4 : Int) ^ P.depth ≤ 4 ^ 12 := by
          have e1 : (4 : Int) ^ 12 = 4 ^ P.depth * 4 ^ (12 - P.depth) := by rw [← pow4_add]; congr 1; omega
          have h1 : (1 : Int) ≤ 4 ^ (12 - P.depth) := by have := pow4 (12 - P.depth); omega
          have h2 := Int.mul_le_mul_of_nonneg_left h1 (Int.le_of_lt (pow4 P.depth))
          rw [e1]; omega
        have h25 : (4 : Int) ^ (m - P.depth) ≤ 4 ^ 12 := by
          have e1 : (4 : Int) ^ 12 = 4 ^ (m - P.depth) * 4 ^ (12 - (m - P.depth)) := by rw [← pow4_add]; congr 1; omega
          have h1 : (1 : Int) ≤ 4 ^ (12 - (m - P.depth)) := by have := pow4 (12 - (m - P.depth)); omega
          have h2 := Int.mul_le_mul_of_nonneg_left h1 (Int.le_of_lt (pow4 (m - P.depth)))
          rw [e1]; omega
        have h26 := pow4 (m - P.depth)
        have h27 : (4 : Int) ^ 12 = 16777216 := by decide
        refine z_mulI (mulS (by omega) (by omega)) ?_
        walk_at "z"
        refine z_setL (n := k) u3 (by omega) (by simp; omega) ?_
        refine ⟨u1.set hS0, ?_, ?_, _, rfl⟩
        · rw [upd_ne (ne_of u2 u3 (by intro z; cases z))]
          exact u2
        · rw [upd_same, map_set]
          congr 2
          apply List.map_congr_left
          intro j hj
          by_cases hjk : j = k
          · subst hjk
            rw [if_pos rfl, if_neg (Nat.lt_irrefl _), if_pos (Nat.lt_succ_self _)]
            simp [term4]
          · rw [if_neg hjk]
            by_cases h2 : j < k
            · rw [if_pos h2, if_pos (by omega)]
            · rw [if_neg h2, if_neg (by omega)]
      · rintro σ H6 ⟨u1, u2, u3, w, rfl⟩
        refine ⟨u1, u2, ?_, _, _, rfl⟩
        rw [u3, et]
        congr 2
        apply List.map_congr_left
        intro j hj
        have hj10 : j < Int.toNat 10 := by simpa using hj
        rw [part4_add, if_pos hj10]
    · rintro σ H' ⟨t1, t2, t3, v, w, rfl⟩
      have hF6 := hF.same t1
      obtain ⟨dx6, ob6⟩ := hF6.ob
      walk_at "z"
      refine z_methR ob6 noFaces_stored ?_
      walk_at "z"
      refine ⟨sz1000 (by simp), fun t ht => ?_⟩
      walk_at "z"
      have tS : S ≠ t := ne_of_none t3 ht
      refine ⟨p, A, D, ps, .q PA PB PC PD, t, S, by rw [edep]; rfl, hF6.same (Same.new ht), ?_, ?_, ?_, ?_, ⟨by omega, fun z => c1 (same.mpr z)⟩, hl, fun H7 D' kp hF7 d1 d2 => ?_⟩
      · rw [upd_same]
        simp only [nodeOf, List.map_cons, List.map_nil]
        rw [← ea, ← eb, ← ec, ← ed]
      · rw [upd_ne tS, t3]
        congr 2
        simp only [Pic.sums, List.map_map]
        apply List.map_congr_left
        intro j hj
        simp only [Function.comp, part4, term4, Pic.cnt, List.take, List.map, List.sum_cons, List.sum_nil, List.length]
        rw [← hm0]
        simp only [fourMax]
        congr 1
        omega
      · intro z
        have hex : ∀ b, A.foot b → H b ≠ none := fun b hb z => by
          obtain ⟨ns, hn, _⟩ := hF.nodes
          obtain ⟨ss, hs, _⟩ := hF.sums
          obtain ⟨kvs, hk, _⟩ := hF.known
          obtain ⟨wh, hw, _⟩ := hF.whirl
          rcases hb with rfl | rfl | rfl | rfl | rfl
          · rw [hn] at z; cases z
          · rw [hF.depths] at z; cases z
          · rw [hs] at z; cases z
          · rw [hk] at z; cases z
          · rw [hw] at z; cases z
        exact hex S z hS0
      · intro Q hQ
        simp [Pic.parts] at hQ
        rcases hQ with rfl | rfl | rfl | rfl
        · exact hA.mem
        · exact hB.mem
        · exact hC.mem
        · exact hD.mem
      · refine qk (by omega) H7 D' ((t1.trans (Same.new ht)).keep.trans kp) hF7 d1 fun x hx => ?_
        rcases d2 x hx with z | rfl | rfl
        · exact .inl z
        · exact .inr (t1.free ht)
        · exact .inr hS0
def v4 (r : Int × Int × Int × Int) : List V := [.int r.1, .int r.2.1, .int r.2.2.1, .int r.2.2.2]
def spArr (K : PySem.W.Frag) : Sp := fun vs H Q _ => ∃ (t : Int) (l : Addr) (x : Int × Int × Int × Int), vs = [.int t, .ref l] ∧ SqL K H l (v4 x) ∧ (∀ H' q, Same H H' → H' q = some (.tup (v4 (arr t x))) → Q (.ref q) H')
abbrev narranged : List Str := ["turning", "four", "a", "b", "c", "d", "step"]
abbrev parranged : List Str := ["turning", "four"]
theorem scarranged : FnScope narranged parranged (defScope sarranged) := ⟨rfl, rfl, rfl, by decide +kernel, rfl, by decide +kernel, by decide +kernel⟩
theorem ok_arranged {P : Program} {w : World} {K : PySem.W.Frag} {mg : Str → Option Value} {base : Heap} (T : Tb w K mg base) : Fk P w K mg base 1 (He.ga K "arranged") parranged (spArr K) := by
  refine Fk.mk' T.farranged scarranged (fun _ _ _ _ _ _ us hl => match us, hl with | [_, _], _ => rfl) (by
  intro vs H Q E h
  repeat (first | (obtain ⟨h1, _⟩ := h; subst h1; rfl) | (obtain ⟨_, h⟩ := h))) (fun cdv A outer s H vs Q E hr h => ?_)
  have hu := hu_of hr
  have hu64 := hr.units
  refine ⟨_, (pss_cons (ps_asg (pv 1) (k_pgl (n := 4) K rfl (pgs_cons (pg_name (i := 2) scarranged.nd rfl (Or.inl rfl)) (pgs_cons (pg_name (i := 3) scarranged.nd rfl (Or.inl rfl)) (pgs_cons (pg_name (i := 4) scarranged.nd rfl (Or.inl rfl)) (pgs_cons (pg_name (i := 5) scarranged.nd rfl (Or.inl rfl)) pgs_nil))))))
  (pss_cons (ps_if (pt_cmpR op_gt (pv 0) pe_int (nomark _)) (pss_one (ps_asg (pe_tup (pa_cons (pv 3) (pa_cons (pv 2) (pa_cons (pv 5) (pa_cons (pv 4) pa_nil))))) (k_pgt (n := 4) K rfl (pgs_cons (pg_name (i := 2) scarranged.nd rfl (Or.inl rfl)) (pgs_cons (pg_name (i := 3) scarranged.nd rfl (Or.inl rfl)) (pgs_cons (pg_name (i := 4) scarranged.nd rfl (Or.inl rfl)) (pgs_cons (pg_name (i := 5) scarranged.nd rfl (Or.inl rfl)) pgs_nil))))))) pss_nil)
  (pss_cons (ps_for (passes_of rfl) rfl (pi_range1 (by rfl) T.urange (pa_cons (pe_op op_mod (pv 0) pe_int) pa_nil)) (pg_name (i := 6) scarranged.nd rfl (Or.inl rfl)) (pss_one (ps_asg (pe_tup (pa_cons (pv 4) (pa_cons (pv 2) (pa_cons (pv 5) (pa_cons (pv 3) pa_nil))))) (k_pgt (n := 4) K rfl (pgs_cons (pg_name (i := 2) scarranged.nd rfl (Or.inl rfl)) (pgs_cons (pg_name (i := 3) scarranged.nd rfl (Or.inl rfl)) (pgs_cons (pg_name (i := 4) scarranged.nd rfl (Or.inl rfl)) (pgs_cons (pg_name (i := 5) scarranged.nd rfl (Or.inl rfl)) pgs_nil))))))))
  (pss_one (ps_ret (pe_tup (pa_cons (pv 2) (pa_cons (pv 3) (pa_cons (pv 4) (pa_cons (pv 5) pa_nil)))))))))), ?_⟩
  try dsimp only [cxOf]
  obtain ⟨t, l, x, rfl, hl, q⟩ := h
  obtain ⟨a, b, c, d⟩ := x
  have h0 : 0 ≤ t % 4 := Int.emod_nonneg _ (by decide)
  have h4 : t % 4 < 4 := Int.emod_lt_of_pos _ (by decide)
  walk_at "z"
  refine z_gLst hl rfl ?_
  unfold v4
  walk_at "z"
  refine z_ite (fun c0 => ?_) (fun c0 => ?_)
  · walk_at "z"
    walk_at "zt"
    rename_i q1 n1 H1 s1 f1
    walk_at "z"
    refine z_gTup (SqT.of f1) rfl ?_
    walk_at "z"
    refine z_I (by decide) ?_
    walk_at "z"
    refine ⟨_, rfl, by omega, by omega, ?_⟩
    refine for_range (fun i σ H' => Same H H' ∧ ∃ st, σ = [some (.int t), some (.ref l), some (.int (rots4 i (b, a, d, c)).1), some (.int (rots4 i (b, a, d, c)).2.1), some (.int (rots4 i (b, a, d, c)).2.2.1), some (.int (rots4 i (b, a, d, c)).2.2.2), st]) ⟨s1, none, rfl⟩ ?_ ?_
    · rintro i σ H' hi ⟨s2, st, rfl⟩
      walk_at "z"
      walk_at "zt"
      rename_i q2 n2 H2 s3 f3
      walk_at "z"
      refine z_gTup (SqT.of f3) rfl ?_
      walk_at "z"
      exact ⟨s2.trans s3, _, rfl⟩
    · rintro σ H' ⟨s2, st, rfl⟩
      walk_at "z"
      walk_at "zt"
      rename_i q2 n2 H2 s3 f3
      refine q _ _ (s2.trans s3) ?_
      rw [f3]
      unfold v4 arr
      rw [if_pos c0]
  · walk_at "z"
    refine z_I (by decide) ?_
    walk_at "z"
    refine ⟨_, rfl, by omega, by omega, ?_⟩
    refine for_range (fun i σ H' => Same H H' ∧ ∃ st, σ = [some (.int t), some (.ref l), some (.int (rots4 i (a, b, c, d)).1), some (.int (rots4 i (a, b, c, d)).2.1), some (.int (rots4 i (a, b, c, d)).2.2.1), some (.int (rots4 i (a, b, c, d)).2.2.2), st]) ⟨Same.refl _, none, rfl⟩ ?_ ?_
    · rintro i σ H' hi ⟨s2, st, rfl⟩
      walk_at "z"
      walk_at "zt"
      rename_i q2 n2 H2 s3 f3
      walk_at "z"
      refine z_gTup (SqT.of f3) rfl ?_
      walk_at "z"
      exact ⟨s2.trans s3, _, rfl⟩
    · rintro σ H' ⟨s2, st, rfl⟩
      walk_at "z"
      walk_at "zt"
      rename_i q2 n2 H2 s3 f3
      refine q _ _ (s2.trans s3) ?_
      rw [f3]
      unfold v4 arr
      rw [if_neg c0]
def spWhirled (C : Addr) (n : Nat) : Sp := fun vs H Q _ => ∃ p A D ps bs, ∃ f t : Int, ∃ P, vs = [.ref p, .int f, .int t] ∧ FacesAt C H p A D ps ∧ IsF ps f P ∧ (0 ≤ t ∧ t < 8) ∧ P.depth < n ∧ Base bs ps ∧ bs.length ≤ 10000 ∧
  AfterX C H p A D bs ps fun ps' H' => P.turn t ∈ ps' → Q (.int (ix ps' (P.turn t) : Nat)) H'
abbrev nFaces_whirled : List Str := ["self", "face", "turning", "part", "parts", "a", "b", "c", "d"]
abbrev pFaces_whirled : List Str := ["self", "face", "turning"]
theorem scFaces_whirled : FnScope nFaces_whirled pFaces_whirled (defScope sFaces_whirled) := ⟨rfl, rfl, rfl, by decide +kernel, rfl, by decide +kernel, by decide +kernel⟩
theorem ok_Faces_whirled {P : Program} {w : World} {K : PySem.W.Frag} {mg : Str → Option Value} {base : Heap} (T : Tb w K mg base) : ∀ n : Nat, Fk P w K mg base (2 + n) (He.ma K (He.ga K "Faces") "whirled") pFaces_whirled (spWhirled (He.ga K "Faces") n)
  | 0 => (Fk.no T.fFaces_whirled (fun _ _ _ _ _ _ us hl => match us, hl with | [_, _, _], _ => rfl) (fun vs H Q E ⟨_, _, _, _, _, _, _, _, _, _, _, _, h, _⟩ => absurd h (Nat.not_lt_zero _))).up (by omega)
  | n + 1 => by
      have GR := ok_Faces_whirled (P := P) (w := w) (base := base) T n
      have Garranged := ok_arranged (P := P) (w := w) (base := base) T
      have GFaces_four := ok_Faces_four (P := P) (w := w) (base := base) T
      refine Fk.mk' (k := 2 + n) T.fFaces_whirled scFaces_whirled (fun _ _ _ _ _ _ us hl => match us, hl with | [_, _, _], _ => rfl) (by
        intro vs H Q E h
        repeat (first | (obtain ⟨h1, _⟩ := h; subst h1; rfl) | (obtain ⟨_, h⟩ := h))) (fun cdv A outer s H vs Q E hr h => ?_)
      have hu := hu_of hr
      have hu64 := hr.units
      refine ⟨_, (pss_cons (ps_if (PW.pt (pw_or (pt_cmpR (k_eq K hu64) (k_ix K (k_fld K (pv 0) rfl) (pv 1) (fun _ _ => rfl)) pe_int (nomark _)) (pw_or1 (pt_cmpR (k_eq K hu64) (pv 2) pe_int (nomark _))))) (pss_one (ps_ret (pv 1))) pss_nil)
      (pss_cons (ps_if (pt_cmp (pc_dnotin hu (pe_tup (pa_cons (pv 1) (pa_cons (pv 2) pa_nil))) (k_fld K (pv 0) rfl))) (pss_cons (ps_setLc (i := 4) (own := [("part", 3)]) (g := gName 3) rfl scFaces_whirled.nd rfl rfl (sw_true rfl rfl rfl (by decide +kernel)) (k_pit K (k_ix K (k_fld K (pv 0) rfl) (pv 1) (fun _ _ => rfl))) (blkOk_by (own := [("part", 3)]) (N := nFaces_whirled) (sc := defScope sFaces_whirled) (by decide +kernel)) (fun _ _ _ _ _ => pg_name (i := 3) scFaces_whirled.nd rfl (Or.inl rfl)) (fun _ _ _ _ _ => pts_nil) (fun _ _ _ _ _ => (q_meth (pv 0) T.cFaces T.mFaces_whirled GR (hr.mono (by omega)) passL (pa_cons (pv 3) (pa_cons (pv 2) pa_nil)))))
      (pss_cons (ps_asg (q_call Garranged (hr.mono (by omega)) T.garranged passX (pa_cons (pv 2) (pa_cons (pv 4) pa_nil))) (k_pgt (n := 4) K rfl (pgs_cons (pg_name (i := 5) scFaces_whirled.nd rfl (Or.inl rfl)) (pgs_cons (pg_name (i := 6) scFaces_whirled.nd rfl (Or.inl rfl)) (pgs_cons (pg_name (i := 7) scFaces_whirled.nd rfl (Or.inl rfl)) (pgs_cons (pg_name (i := 8) scFaces_whirled.nd rfl (Or.inl rfl)) pgs_nil))))))
      (pss_one (ps_dput hu (k_fld K (pv 0) rfl) (pe_tup (pa_cons (pv 1) (pa_cons (pv 2) pa_nil))) (q_meth (pv 0) T.cFaces T.mFaces_four GFaces_four (hr.mono (by omega)) passX (pa_cons (pv 5) (pa_cons (pv 6) (pa_cons (pv 7) (pa_cons (pv 8) pa_nil))))) rfl)))) pss_nil)
      (pss_one (ps_ret (pe_dget hu (k_fld K (pv 0) rfl) (pe_tup (pa_cons (pv 1) (pa_cons (pv 2) pa_nil))) (fun _ _ => rfl)))))), ?_⟩
      try dsimp only [cxOf]
      obtain ⟨p, A, D, ps, bs, f, t, P, rfl, hF, hP, ⟨t0, t8⟩, hd, hB, hbs, q⟩ := h
      obtain ⟨dx, ob⟩ := hF.ob
      have same : P.turn t = P → Q (.int f) H := fun e => by
        have e1 := q [] (by rw [List.append_nil]; exact hB) H D (Keep.refl _ _) (by rw [List.append_nil]; exact hF) (fun _ h => h) (fun b h => .inl h)
        rw [List.append_nil, e] at e1
        rw [IsF.eq hF.inv.nd hP]
        exact e1 hP.mem
      walk_at "z"
      refine z_fldR ob T.cFaces T.aFaces_depths lkFaces_depths ?_
      walk_at "z"
      refine z_ixL (SqL.of hF.depths) (FacesAt.depthAt hP) ?_
      walk_at "z"
      refine z_ite (fun c1 => ?_) (fun c1 => ?_)
      · walk_at "z"
        obtain ⟨c, rfl⟩ := depth_zero (P := P) (by omega)
        exact same rfl
      walk_at "z"
      refine z_ite (fun c2 => ?_) (fun c2 => ?_)
      · walk_at "z"
        exact same (by rw [c2, turn_zero])
      walk_at "z"
      walk_at "zt"
      rename_i kt nkt H1 s1 f1
      have hF1 := hF.same s1
      obtain ⟨dx1, ob1⟩ := hF1.ob
      obtain ⟨wh, hw, wok⟩ := hF1.whirl
      walk_at "z"
      refine z_fldR ob1 T.cFaces T.aFaces_whirls lkFaces_whirls ?_
      refine z_dniR (DGet.t (k := [.inl f, .inl t]) hw f1) ?_
      walk_at "z"
      have last : ∀ (qs : List Pic) (H9 : Hp) (D9 : Addr → Prop), Keep A.foot H H9 → FacesAt (He.ga K "Faces") H9 p A D9 (ps ++ qs) → Base bs (ps ++ qs) → (∀ b, D b → D9 b) → (∀ b, D9 b → D b ∨ H b = none) → P.turn t ∈ ps ++ qs → ∀ wh9, H9 A.w = some (.dT wh9) →
          valV wh9 [.inl f, .inl t] = some (.int (ix (ps ++ qs) (P.turn t) : Nat)) → ∀ R, H9 R = some (.tup [.int f, .int t]) → rDGt (.ref A.w) (.ref R) H9 Q := by
        intro qs H9 D9 kp hF9 hB9 d1 d2 hm wh9 hw9 hv R hR
        refine z_dgetR (v := .int (ix (ps ++ qs) (P.turn t) : Nat)) ?_ (q qs hB9 H9 D9 kp hF9 d1 d2 hm)
        have g := DGet.t (k := [.inl f, .inl t]) hw9 hR
        rw [hv] at g
        exact g
      cases hv : valV wh [.inl f, .inl t] with
      | some v =>
        obtain ⟨P', hP', hm', rfl⟩ := wok.val f t v hv
        obtain rfl := hP'.inj hP
        refine iteF ?_
        walk_at "z"
        refine z_fldR ob1 T.cFaces T.aFaces_whirls lkFaces_whirls ?_
        walk_at "z"
        walk_at "zt"
        rename_i kt2 nkt2 H2 s2 f2
        refine last [] H2 D (s1.trans s2).keep (by rw [List.append_nil]; exact hF1.same s2) (by rw [List.append_nil]; exact hB) (fun _ h => h) (fun b h => .inl h) (by rw [List.append_nil]; exact hm') wh (s2 _ _ hw) (by rw [List.append_nil]; exact hv) kt2 f2
      | none =>
        refine iteT ?_
        cases P with
        | p c => exact absurd rfl c1
        | q x y z w =>
        have hpin := hF.inv.cl _ hP.mem
        have hok := hF.inv.ok _ hP.mem
        have hxs : ∀ (i : Nat) (Q : Pic), ([x, y, z, w] : List Pic)[i]? = some Q → Q ∈ ps ∧ Q.depth < n := fun i Q e => by
          have hmem : Q ∈ [x, y, z, w] := List.mem_of_getElem? e
          refine ⟨hpin Q hmem, ?_⟩
          simp only [Pic.depth] at hd
          simp only [List.mem_cons, List.not_mem_nil, or_false] at hmem
          rcases hmem with rfl | rfl | rfl | rfl <;> omega
        obtain ⟨ns, hn, n2, n3⟩ := hF1.nodes
        have hlt : f.toNat < ns.length := by have := hP.1; have := hP.lt; omega
        obtain ⟨da, ha⟩ := n3 f.toNat _ _ (List.getElem?_eq_getElem hlt) hP.2
        walk_at "z"
        refine z_fldR ob1 T.cFaces T.aFaces_nodes lkFaces_nodes ?_
        walk_at "z"
        refine z_ixL (SqL.of hn) (atI_of (n := f.toNat) (v := .ref (ns[f.toNat])) (by rw [List.getElem?_map, List.getElem?_eq_getElem hlt]; rfl) (by have := hP.1; omega)) ?_
        have hnx : (nodeOf ps (Pic.q x y z w)).map V.int = ([x, y, z, w] : List Pic).map fun Q => V.int (ix ps Q : Nat) := rfl
        rw [hnx] at ha
        generalize ns[f.toNat] = nd at da ha ⊢
        refine ⟨nd, rfl, ⟨_, SqT.of ha⟩, fun L hL => ?_⟩
        have hLD : ¬ D L := hF1.nd hL
        have hL0 : H L = none := s1.free hL
        refine lc_tup (K := K) (a := nd) (xs := ([x, y, z, w] : List Pic).map fun Q => V.int (ix ps Q : Nat)) (fun i H' => ∃ qs D', Keep A.foot H1 H' ∧ FacesAt (He.ga K "Faces") H' p A D' (ps ++ qs) ∧ Base bs (ps ++ qs) ∧ (∀ b, D b → D' b) ∧ (∀ b, D' b → D b ∨ H1 b = none) ∧ ¬ D' L ∧
            H' L = some (.lst ((([x, y, z, w] : List Pic).take i).map fun Q => V.int (ix (ps ++ qs) (Q.turn t) : Nat))) ∧ ∀ Q ∈ ([x, y, z, w] : List Pic).take i, Q.turn t ∈ ps ++ qs)
          ⟨[], D, (Keep.refl _ _).setNew hL, by rw [List.append_nil]; exact hF1.same (Same.new hL), by rw [List.append_nil]; exact hB, fun _ h => h, fun b h => .inl h, hLD, upd_same, fun Q hQ => by simp at hQ⟩
          (fun i H' _ ⟨qs, D', kp, _⟩ => SqT.of (kp _ _ ha (foot_tup hF1 ha))) ?_ ?_
        · rintro i u H' hi ⟨qs, D', kp, hF2, hB2, d1, d2, nL, hL2, hm⟩
          obtain ⟨Q', hQ', rfl⟩ : ∃ Q', ([x, y, z, w] : List Pic)[i]? = some Q' ∧ u = .int (ix ps Q' : Nat) := by
            rw [List.getElem?_map] at hi
            cases e : ([x, y, z, w] : List Pic)[i]? with
            | none => rw [e] at hi; cases hi
            | some Q' => rw [e] at hi; exact ⟨Q', rfl, (Option.some.inj hi).symm⟩
          obtain ⟨hQm, hQd⟩ := hxs i Q' hQ'
          have hi4 : i < 4 := by have := (List.getElem?_eq_some_iff.mp hQ').1; simpa using this
          obtain ⟨dx2, ob2⟩ := hF2.ob
          walk_at "zw"
          walk_at "z"
          refine ⟨rfl, ?_⟩
          walk_at "z"
          refine z_methR ob2 noFaces_whirled ?_
          walk_at "z"
          refine ⟨p, A, D', ps ++ qs, bs, _, t, Q', rfl, hF2, (IsF.ix hQm).app, ⟨t0, t8⟩, hQd, hB2, hbs, fun qs2 hB3 H3 D3 kp3 hF3 e1 e2 hm3 => ?_⟩
          have hL3 : H3 L = some (.lst ((([x, y, z, w] : List Pic).take i).map fun Q => V.int (ix (ps ++ qs) (Q.turn t) : Nat))) := kp3 _ _ hL2 (hF2.ofFoot nL)
          have nL3 : ¬ D3 L := fun zz => (e2 _ zz).elim nL (fun e => by rw [hL2] at e; cases e)
          refine ⟨_, hL3, szlt (by simp; omega), qs ++ qs2, D3, (kp.trans kp3).setNew hL, ?_, by rw [← List.append_assoc]; exact hB3, fun b hb => e1 b (d1 b hb), fun b hb => ?_, nL3, ?_, ?_⟩
          · rw [← List.append_assoc]
            exact hF3.keep fun b o hb e => by rw [upd_ne (fun zz => nL3 (by rw [← zz]; exact hb))]; exact e
          · rcases e2 b hb with zz | zz
            · exact d2 b zz
            · refine .inr ?_
              cases e : H1 b with
              | none => rfl
              | some o =>
                by_cases hf : A.foot b
                · obtain ⟨o2, e2⟩ := hF2.ex b (hF2.df b hf)
                  rw [e2] at zz; cases zz
                · rw [kp b o e hf] at zz; cases zz
          · rw [upd_same, List.take_add_one, hQ', ← List.append_assoc]
            congr 2
            rw [List.map_append]
            congr 1
            apply List.map_congr_left
            intro R hR
            rw [ix_app (hm R hR)]
          · intro R hR
            rw [← List.append_assoc]
            rw [List.take_add_one, hQ'] at hR
            rcases List.mem_append.mp hR with zz | zz
            · exact List.mem_append_left _ (hm R zz)
            · simp at zz
              rw [zz]; exact hm3
        · rintro H2 ⟨qs, D', kp, hF2, hB2, d1, d2, nL, hL2, hm⟩
          have hx := hm x (by simp)
          have hy := hm y (by simp)
          have hz := hm z (by simp)
          have hw4 := hm w (by simp)
          walk_at "z"
          refine ⟨t, L, ((ix (ps ++ qs) (x.turn t) : Nat), (ix (ps ++ qs) (y.turn t) : Nat), (ix (ps ++ qs) (z.turn t) : Nat), (ix (ps ++ qs) (w.turn t) : Nat)), rfl, SqL.of hL2, fun H3 r s3 hr => ?_⟩
          refine z_gTup (SqT.of hr) rfl ?_
          unfold v4
          have hF3 := hF2.same s3
          obtain ⟨dx3, ob3⟩ := hF3.ob
          have em : arr t (((ix (ps ++ qs) (x.turn t) : Nat) : Int), ((ix (ps ++ qs) (y.turn t) : Nat) : Int), ((ix (ps ++ qs) (z.turn t) : Nat) : Int), ((ix (ps ++ qs) (w.turn t) : Nat) : Int)) = map4 (fun Q => ((ix (ps ++ qs) Q : Nat) : Int)) (arr t (x.turn t, y.turn t, z.turn t, w.turn t)) :=
            (arr_map t0 t8 (fun Q => ((ix (ps ++ qs) Q : Nat) : Int)) (x.turn t, y.turn t, z.turn t, w.turn t)).symm
          rw [em]
          have et : (Pic.q x y z w).turn t = q4 (arr t (x.turn t, y.turn t, z.turn t, w.turn t)) := turn_q t x y z w
          have hmem : ∀ R ∈ (q4 (arr t (x.turn t, y.turn t, z.turn t, w.turn t))).parts, R ∈ ps ++ qs := by
            rcases eight t0 t8 with rfl | rfl | rfl | rfl | rfl | rfl | rfl | rfl <;>
              (intro R hR; simp only [q4, arr, rots4, rot4, Pic.parts] at hR; simp at hR; rcases hR with rfl | rfl | rfl | rfl <;> assumption)
          have hok2 : (q4 (arr t (x.turn t, y.turn t, z.turn t, w.turn t))).ok := by rw [← et]; exact turn_ok t0 t8 hok
          have hBt : ∃ B ∈ bs, ∃ u : Int, (0 ≤ u ∧ u < 8) ∧ q4 (arr t (x.turn t, y.turn t, z.turn t, w.turn t)) = B.turn u := by rw [← et]; exact hB.turn hP.mem t0 t8
          rw [et] at q last
          generalize arr t (x.turn t, y.turn t, z.turn t, w.turn t) = r4 at et hmem hok2 hBt q last ⊢
          obtain ⟨a, b, c, d⟩ := r4
          have ma : a ∈ ps ++ qs := hmem a (by simp [q4, Pic.parts])
          have mb : b ∈ ps ++ qs := hmem b (by simp [q4, Pic.parts])
          have mc : c ∈ ps ++ qs := hmem c (by simp [q4, Pic.parts])
          have md : d ∈ ps ++ qs := hmem d (by simp [q4, Pic.parts])
          have hmk : Pic.mk a b c d = .q a b c d := mk_ok hok2
          have hle := hB2.len hF2.inv.nd
          simp only [map4]
          walk_at "z"
          refine z_methR ob3 noFaces_four ?_
          walk_at "z"
          refine ⟨p, A, D', ps ++ qs, _, _, _, _, rfl, hF3, by omega, fun no => absurd ⟨⟨(IsF.ix ma).1, (IsF.ix ma).lt⟩, ⟨(IsF.ix mb).1, (IsF.ix mb).lt⟩, ⟨(IsF.ix mc).1, (IsF.ix mc).lt⟩, ⟨(IsF.ix md).1, (IsF.ix md).lt⟩⟩ no, fun PA PB PC PD hA hB5 hC hD => ?_⟩
          obtain rfl := hA.inj (IsF.ix ma)
          obtain rfl := hB5.inj (IsF.ix mb)
          obtain rfl := hC.inj (IsF.ix mc)
          obtain rfl := hD.inj (IsF.ix md)
          rw [hmk]
          refine ⟨fun deep => absurd hok2.1 (by simp only [q4] at deep ⊢; omega), fun _ H4 D4 kp4 hF4 g1 g2 => ?_⟩
          have hB4 := hB2.add hBt
          obtain ⟨rs, ers⟩ := addP_ext (ps ++ qs) (.q PA PB PC PD)
          have hm4 : (q4 (PA, PB, PC, PD)) ∈ addP (ps ++ qs) (.q PA PB PC PD) := addP_mem _ _
          have hle4 := hB4.len hF4.inv.nd
          have eq4 : q4 (PA, PB, PC, PD) = Pic.q PA PB PC PD := rfl
          rw [eq4] at hm4 hB4 hle4 last et
          rw [ers, List.append_assoc] at hF4 hB4 hm4 hle4 ⊢
          obtain ⟨dx4, ob4⟩ := hF4.ob
          have keep14 : Keep A.foot H H4 := (s1.keep.trans kp).trans (s3.keep.trans kp4)
          have fresh4 : ∀ b, D4 b → D b ∨ H b = none := fun b hb => by
            have back : H2 b = none → D b ∨ H b = none := fun zz => by
              cases e : H b with
              | none => exact .inr rfl
              | some o =>
                by_cases hf : A.foot b
                · obtain ⟨o2, e2⟩ := hF2.ex b (hF2.df b hf)
                  rw [e2] at zz; cases zz
                · rw [kp b o (s1 _ _ e) hf] at zz; cases zz
            rcases g2 b hb with zz | zz
            · rcases d2 b zz with z1 | z1
              · exact .inl z1
              · exact .inr (s1.free z1)
            · exact back (s3.free zz)
          walk_at "z"
          refine z_fldR ob4 T.cFaces T.aFaces_whirls lkFaces_whirls ?_
          walk_at "z"
          walk_at "zt"
          rename_i kt5 nkt5 H5 s5 f5
          have hF5 := hF4.same s5
          obtain ⟨wh5, hw5, wok5⟩ := hF5.whirl
          have hwl := wok5.len
          have hPf : IsF (ps ++ (qs ++ rs)) f (.q x y z w) := hP.app
          have hput := wok5.put (t := t) hPf t0 t8 (by rw [et]; exact hm4)
          rw [et] at hput
          refine z_dputR (DPut.t (k := [.inl f, .inl t]) hw5 f5 (szbig (by omega))) ?_
          have hF6 := hF5.whirlSet hw5 hput
          have hw6 : upd H5 A.w (.dT (putK wh5 [.inl f, .inl t] (.int (ix (ps ++ (qs ++ rs)) (.q PA PB PC PD) : Nat)))) A.w = some (.dT (putK wh5 [.inl f, .inl t] (.int (ix (ps ++ (qs ++ rs)) (.q PA PB PC PD) : Nat)))) := upd_same
          have kp6 : Keep A.foot H5 (upd H5 A.w (.dT (putK wh5 [.inl f, .inl t] (.int (ix (ps ++ (qs ++ rs)) (.q PA PB PC PD) : Nat))))) := (Keep.refl _ _).set (.inr (.inr (.inr (.inr rfl))))
          generalize upd H5 A.w _ = H6 at hF6 hw6 kp6 ⊢
          obtain ⟨dx6, ob6⟩ := hF6.ob
          walk_at "z"
          refine z_fldR ob6 T.cFaces T.aFaces_whirls lkFaces_whirls ?_
          walk_at "z"
          walk_at "zt"
          rename_i kt7 nkt7 H7 s7 f7
          refine last (qs ++ rs) H7 D4 (keep14.trans (s5.keep.trans (kp6.trans s7.keep))) (hF6.same s7) hB4 (fun b hb => g1 b (d1 b hb)) fresh4 hm4 _ (s7 _ _ hw6) (by rw [valV_put, if_pos rfl]) kt7 f7
def spTurned (C N B : Addr) : Sp := fun vs H Q E => ∃ p A D ps bs, ∃ f t : Int, vs = [.ref p, .int f, .int t] ∧ FacesAt C H p A D ps ∧ Base bs ps ∧ bs.length ≤ 10000 ∧ (¬ (0 ≤ f ∧ f < ps.length) → E (.ref N) none H) ∧
  ∀ P, IsF ps f P → (¬ (0 ≤ t ∧ t ≤ 7) → E (.ref B) none H) ∧ ((0 ≤ t ∧ t < 8) → AfterX C H p A D bs ps fun ps' H' => P.turn t ∈ ps' → Q (.int (ix ps' (P.turn t) : Nat)) H')
abbrev nFaces_turned : List Str := ["self", "face", "turning"]
abbrev pFaces_turned : List Str := ["self", "face", "turning"]
theorem scFaces_turned : FnScope nFaces_turned pFaces_turned (defScope sFaces_turned) := ⟨rfl, rfl, rfl, by decide +kernel, rfl, by decide +kernel, by decide +kernel⟩
theorem ok_Faces_turned {P : Program} {w : World} {K : PySem.W.Frag} {mg : Str → Option Value} {base : Heap} (T : Tb w K mg base) : Fk P w K mg base 16 (He.ma K (He.ga K "Faces") "turned") pFaces_turned (spTurned (He.ga K "Faces") (He.ga K "NoFace") (He.ga K "BadTurn")) := by
  have GFaces_need := ok_Faces_need (P := P) (w := w) (base := base) T
  have GFaces_whirled := ok_Faces_whirled (P := P) (w := w) (base := base) T 13
  refine Fk.mk' T.fFaces_turned scFaces_turned (fun _ _ _ _ _ _ us hl => match us, hl with | [_, _, _], _ => rfl) (by
  intro vs H Q E h
  repeat (first | (obtain ⟨h1, _⟩ := h; subst h1; rfl) | (obtain ⟨_, h⟩ := h))) (fun cdv A outer s H vs Q E hr h => ?_)
  have hu := hu_of hr
  have hu64 := hr.units
  refine ⟨_, (pss_cons (ps_expr (q_meth (pv 0) T.cFaces T.mFaces_need GFaces_need (hr.mono (by omega)) passX (pa_cons (pv 1) pa_nil)))
  (pss_cons (ps_if (PW.pt (pw_or (pt_cmpR op_lt (pv 2) pe_int (nomark _)) (pw_or1 (pt_cmpR op_gt (pv 2) pe_int (nomark _))))) (pss_one (ps_raise rfl takesX (pmk_own PySem.F.excBase_ValueError T.eBadTurn.1 T.gBadTurn T.eBadTurn.2.1 (raises_own T.eBadTurn.2.2.1 T.eBadTurn.2.2.2) (by rfl)))) pss_nil)
  (pss_one (ps_ret (q_meth (pv 0) T.cFaces T.mFaces_whirled GFaces_whirled (hr.mono (by omega)) passX (pa_cons (pv 1) (pa_cons (pv 2) pa_nil))))))), ?_⟩
  try dsimp only [cxOf]
  obtain ⟨p, A, D, ps, bs, f, t, rfl, hF, hB, hbs, e, q⟩ := h
  obtain ⟨dx, ob⟩ := hF.ob
  walk_at "z"
  refine z_methR ob noFaces_need ?_
  walk_at "z"
  refine ⟨p, A, D, ps, f, rfl, hF, fun c => ?_, e⟩
  obtain ⟨P, hP⟩ := IsF.ex c.1 c.2
  obtain ⟨q1, q2⟩ := q P hP
  have hd := ok_depth (hF.inv.ok _ hP.mem)
  walk_at "z"
  refine z_ite (fun c1 => ?_) (fun c1 => ?_)
  · walk_at "z"
    exact q1 (by omega)
  walk_at "z"
  refine z_ite (fun c2 => ?_) (fun c2 => ?_)
  · walk_at "z"
    exact q1 (by omega)
  walk_at "z"
  refine z_methR ob noFaces_whirled ?_
  walk_at "z"
  exact ⟨p, A, D, ps, bs, f, t, P, rfl, hF, hP, by omega, by omega, hB, hbs, q2 (by omega)⟩
def spNodes (C : Addr) (K : PySem.W.Frag) : Sp := fun vs H Q _ => ∃ (p : Addr) (A : FA) (D : Addr → Prop) (cl : Addr) (ms : List Int), vs = [.ref p, .ref cl] ∧ FacesAt C H p A D [] ∧ H cl = some (.lst (ms.map V.int)) ∧ ¬ D cl ∧ ms.length ≤ 100 ∧
  ∀ H' q nl dl tl D' ps Ps nds, Keep A.foot H H' → (∀ b, D' b → D b ∨ H b = none) → H' q = some (.tup [.ref nl, .ref dl, .ref tl]) → Stand C H' p A D' ps nl dl tl Ps nds → Ps.length ≤ 10 + ms.length → (H nl = none ∧ H dl = none ∧ H tl = none) → Q (.ref q) H'
abbrev n_law_nodes : List Str := ["_law_faces", "_law_cells", "_law_colour", "_law_nodes_here", "_law_deeps", "_law_told", "_law_cell_here", "_law_four", "_law_deep_here", "_law_at", "_law_turning", "_law_turned", "_law_face"]
abbrev p_law_nodes : List Str := ["_law_faces", "_law_cells"]
theorem sc_law_nodes : FnScope n_law_nodes p_law_nodes (defScope s_law_nodes) := ⟨rfl, rfl, rfl, by decide +kernel, rfl, by decide +kernel, by decide +kernel⟩
theorem ok__law_nodes {P : Program} {w : World} {K : PySem.W.Frag} {mg : Str → Option Value} {base : Heap} (T : Tb w K mg base) : Fk P w K mg base 17 (He.ga K "_law_nodes") p_law_nodes (spNodes (He.ga K "Faces") K) := by
  have GFaces_plain := ok_Faces_plain (P := P) (w := w) (base := base) T
  have G_law_quarters := ok__law_quarters (P := P) (w := w) (base := base) T
  have G_law_deep := ok__law_deep (P := P) (w := w) (base := base) T
  have GFaces_four := ok_Faces_four (P := P) (w := w) (base := base) T
  have GFaces_turned := ok_Faces_turned (P := P) (w := w) (base := base) T
  refine Fk.mk' T.f_law_nodes sc_law_nodes (fun _ _ _ _ _ _ us hl => match us, hl with | [_, _], _ => rfl) (by
  intro vs H Q E h
  repeat (first | (obtain ⟨h1, _⟩ := h; subst h1; rfl) | (obtain ⟨_, h⟩ := h))) (fun cdv A outer s H vs Q E hr h => ?_)
  have hu := hu_of hr
  have hu64 := hr.units
  refine ⟨_, (pss_cons (ps_setLc (i := 3) (own := [("_law_colour", 2)]) (g := gName 2) rfl sc_law_nodes.nd rfl rfl (sw_true rfl rfl rfl (by decide +kernel)) (pi_range1 (by rfl) T.urange (pa_cons pe_int pa_nil)) (blkOk_by (own := [("_law_colour", 2)]) (N := n_law_nodes) (sc := defScope s_law_nodes) (by decide +kernel)) (fun _ _ _ _ _ => pg_name (i := 2) sc_law_nodes.nd rfl (Or.inl rfl)) (fun _ _ _ _ _ => pts_nil) (fun _ _ _ _ _ => (pe_tup (pa_cons (pv 2) pa_nil))))
  (pss_cons (ps_set (i := 4) sc_law_nodes.nd rfl (Or.inl rfl) (pe_op op_mulU (pe_lst (pa_cons pe_int pa_nil)) pe_int))
  (pss_cons (ps_set (i := 5) sc_law_nodes.nd rfl (Or.inr rfl) (pe_lc (own := [("_law_colour", 2)]) (g := gName 2) rfl sc_law_nodes.nd (pi_range1 (by rfl) T.urange (pa_cons pe_int pa_nil)) (blkOk_by (own := [("_law_colour", 2)]) (N := n_law_nodes) (sc := defScope s_law_nodes) (by decide +kernel)) (fun _ _ _ _ _ => pg_name (i := 2) sc_law_nodes.nd rfl (Or.inl rfl)) (fun _ _ _ _ _ => pts_nil) (fun _ _ _ _ _ => (q_meth (pv 0) T.cFaces T.mFaces_plain GFaces_plain (hr.mono (by omega)) passL (pa_cons (pv 2) pa_nil)))))
  (pss_cons (ps_for (passes_of rfl) rfl (k_pil K (pv 1)) (pg_name (i := 6) sc_law_nodes.nd rfl (Or.inl rfl)) (pss_cons (ps_set (i := 7) sc_law_nodes.nd rfl (Or.inl rfl) (q_call G_law_quarters (hr.mono (by omega)) T.g_law_quarters passX (pa_cons (pv 6) (pa_cons (pe_callB (k_len K) (by rfl) T.ulen (by decide +kernel) (pa_cons (pv 3) pa_nil)) pa_nil))))
  (pss_cons (ps_set (i := 8) sc_law_nodes.nd rfl (Or.inl rfl) (q_call G_law_deep (hr.mono (by omega)) T.g_law_deep passX (pa_cons (pv 3) (pa_cons (pv 4) (pa_cons (pv 7) pa_nil)))))
  (pss_one (ps_if (pt_cmpR op_le (pv 8) pe_int (nomark _)) (pss_cons (ps_setLc (i := 11) (own := [("_law_at", 9), ("_law_turning", 10)]) rfl sc_law_nodes.nd rfl rfl (sw_true rfl rfl rfl (by decide +kernel)) (k_pit K (pv 7)) (blkOk_by (own := [("_law_at", 9), ("_law_turning", 10)]) (N := n_law_nodes) (sc := defScope s_law_nodes) (by decide +kernel)) (fun _ _ _ _ _ => (k_pgt (n := 2) K rfl (pgs_cons (pg_name (i := 9) sc_law_nodes.nd rfl (Or.inl rfl)) (pgs_cons (pg_name (i := 10) sc_law_nodes.nd rfl (Or.inl rfl)) pgs_nil)))) (fun _ _ _ _ _ => pts_nil) (fun _ _ _ _ _ => (q_meth (pv 0) T.cFaces T.mFaces_turned GFaces_turned (hr.mono (by omega)) passL (pa_cons (k_ix K (pv 5) (pv 9) (fun _ _ => rfl)) (pa_cons (pv 10) pa_nil)))))
  (pss_cons (ps_set (i := 12) sc_law_nodes.nd rfl (Or.inl rfl) (q_meth (pv 0) T.cFaces T.mFaces_four GFaces_four (hr.mono (by omega)) passX (pa_cons (k_ix K (pv 11) pe_int (fun _ _ => rfl)) (pa_cons (k_ix K (pv 11) pe_int (fun _ _ => rfl)) (pa_cons (k_ix K (pv 11) pe_int (fun _ _ => rfl)) (pa_cons (k_ix K (pv 11) pe_int (fun _ _ => rfl)) pa_nil))))))
  (pss_cons (ps_if (pt_cmpR (k_eq K hu64) (pv 8) pe_int (nomark _)) (pss_one (ps_set (i := 7) sc_law_nodes.nd rfl (Or.inl rfl) (k_ix K (pv 3) (k_ix K (k_ix K (pv 7) pe_int (fun _ _ => rfl)) pe_int (fun _ _ => rfl)) (fun _ _ => rfl)))) pss_nil)
  (pss_cons (ps_expr (k_bm K PySem.F.plainAttrs_list PySem.F.slot_list_append PySem.F.type_list_append mt_append (pv 3) (pa_cons (pv 7) pa_nil)))
  (pss_cons (ps_expr (k_bm K PySem.F.plainAttrs_list PySem.F.slot_list_append PySem.F.type_list_append mt_append (pv 4) (pa_cons (pv 8) pa_nil)))
  (pss_one (ps_expr (k_bm K PySem.F.plainAttrs_list PySem.F.slot_list_append PySem.F.type_list_append mt_append (pv 5) (pa_cons (pv 12) pa_nil))))))))) pss_nil)))))
  (pss_one (ps_ret (pe_tup (pa_cons (pv 3) (pa_cons (pv 4) (pa_cons (pv 5) pa_nil)))))))))), ?_⟩
  try dsimp only [cxOf]
  obtain ⟨p, A, D, cl, ms, rfl, hF, hcl, ncl, hms, q⟩ := h
  walk_at "z"
  refine ⟨_, rfl, by decide, by decide, fun nl hnl => ?_⟩
  refine lc_range (lo := 0) (n := 10) (fun i H' => Same H H' ∧ ∃ vs, H' nl = some (.lst vs) ∧ vs.length = i ∧ DvAll H' vs (((plains 10).take i).map fun P => PyData.tuple [.int (colP P)])) ⟨Same.new hnl, [], upd_same, rfl, .nil⟩ ?_ ?_
  · rintro i H' hi ⟨s1, vs, f1, l1, a1⟩
    have hi10 : i < 10 := hi
    have e0 : (0 : Int) + (i : Nat) = (i : Nat) := Int.zero_add _
    rw [e0]
    walk_at "zw"
    walk_at "z"
    refine ⟨rfl, ?_⟩
    walk_at "z"
    walk_at "zt"
    rename_i t nt H2 s2 f2
    have f1' := s2 _ _ f1
    refine ⟨vs, f1', szlt (by omega), (s1.trans s2).set hnl, _, upd_same, by simp [l1], ?_⟩
    rw [List.take_add_one, plains_get hi10]
    simp only [Option.toList_some, List.map_append, List.map_cons, List.map_nil, colP]
    have hfl : ∀ l : List Pic, flatAll (l.map fun P => PyData.tuple [.int (colP P)]) = true := fun l => by induction l with
      | nil => rfl
      | cons P l ih => simp [flatAll, flat, ih]
    refine DvAll.snoc ?_ (dvAll_stay (tup_upd f1') (hfl _) (dvAll_same s2 a1))
    exact .tup (tup_upd f1' _ _ f2) (.cons (.int _) .nil)
  · rintro H1 ⟨s1, vs, f1, l1, a1⟩
    rw [List.take_of_length_le (by rw [plains_len]; exact Nat.le_refl 10)] at a1
    have hF1 := hF.same s1
    walk_at "z"
    walk_at "zt"
    rename_i l0 nl0 H2 s2 f2
    walk_at "z"
    refine z_mulL f2 (by decide) (by decide) (sz1000 (by simp)) ?_
    walk_at "zn"
    rename_i dl hdl H3 s3 f3
    walk_at "z"
    refine ⟨_, rfl, by decide, by decide, fun tl htl => ?_⟩
    have s13 := s2.trans s3
    have s03 := s1.trans s13
    have hF3 := hF.same s03
    have f1' := s13 _ _ f1
    have nDn : ¬ D nl := hF.nd hnl
    have nDd : ¬ D dl := hF.nd (s1.free (s2.free hdl))
    have nDt : ¬ D tl := hF3.nd htl
    have d1 : nl ≠ dl := ne_of_none (s2 _ _ f1) hdl
    have d2 : nl ≠ tl := ne_of_none f1' htl
    have d3 : dl ≠ tl := ne_of_none f3 htl
    have htl0 : H tl = none := s03.free htl
    refine lc_range (lo := 0) (n := 10) (fun i H' => ∃ D', Keep A.foot H3 H' ∧ FacesAt (He.ga K "Faces") H' p A D' (plains i) ∧ (∀ b, D' b → D b ∨ H3 b = none) ∧ ¬ D' tl ∧ H' tl = some (.lst ((plains i).map fun P => V.int (ix (plains i) P : Nat))))
      ⟨D, (Keep.refl _ _).setNew htl, hF3.same (Same.new htl), fun b h => .inl h, nDt, upd_same⟩ ?_ ?_
    · rintro i H' hi ⟨D', kp, hF4, dd, nt4, f4⟩
      have hi10 : i < 10 := hi
      have e0 : (0 : Int) + (i : Nat) = (i : Nat) := Int.zero_add _
      rw [e0]
      obtain ⟨dx4, ob4⟩ := hF4.ob
      walk_at "zw"
      walk_at "z"
      refine ⟨rfl, ?_⟩
      walk_at "z"
      refine z_methR ob4 noFaces_plain ?_
      walk_at "z"
      refine ⟨p, A, D', plains i, (i : Nat), rfl, hF4, by rw [plains_len]; omega, fun no => absurd ⟨by omega, by omega⟩ no, fun _ H5 D5 kp5 hF5 g1 g2 => ?_⟩
      rw [plains_add] at hF5 ⊢
      have f5 := kp5 _ _ f4 (hF4.ofFoot nt4)
      have nt5 : ¬ D5 tl := fresh_not f4 nt4 g2
      refine ⟨_, f5, szlt (by simp [plains_len]; omega), D5, (kp.trans kp5).setNew htl, hF5.keep (fun b o hb e => by rw [upd_ne (fun z => nt5 (by rw [← z]; exact hb))]; exact e), fun b hb => ?_, nt5, ?_⟩
      · rcases g2 b hb with z | z
        · exact dd b z
        · refine .inr ?_
          cases e : H3 b with
          | none => rfl
          | some o =>
            by_cases hf : A.foot b
            · obtain ⟨o2, e2⟩ := hF4.ex b (hF4.df b hf)
              rw [e2] at z; cases z
            · rw [kp b o e hf] at z; cases z
      · rw [upd_same]
        have ep : plains (i + 1) = plains i ++ [.p (i : Int)] := by simp [plains, List.range_succ]
        congr 2
        rw [ep, List.map_append]
        congr 1
        apply List.map_congr_left
        intro P hP
        rw [ix_app hP]
    · rintro H4 ⟨D4, kp4, hF4, dd4, nt4, f4⟩
      have st0 : Stand (He.ga K "Faces") H4 p A D4 (plains 10) nl dl tl (plains 10) ((plains 10).map fun P => Nd.pl (colP P)) := by
        refine ⟨hF4, ⟨by simp, ⟨vs, kp4 _ _ f1' (hF3.ofFoot nDn), ?_⟩, ?_⟩, ?_, f4, fun P h => h, base_plains 10, fresh_not f1' nDn dd4, fresh_not f3 nDd dd4, nt4, d1, d2, d3, by rw [plains_len]; exact Nat.le_refl _⟩
        · rw [List.map_map]
          refine dvAll_stay (kp4.tup hF3) ?_ (dvAll_same s13 a1)
          exact flat_nds ((plains 10).map fun P => Nd.pl (colP P)) ▸ (by rfl)
        · intro i P n h1 h2
          rw [List.getElem?_map, h1] at h2
          obtain rfl := Option.some.inj h2
          have hm := List.mem_of_getElem? h1
          simp only [plains, List.mem_map] at hm
          obtain ⟨k, _, rfl⟩ := hm
          rfl
        · rw [kp4 _ _ f3 (hF3.ofFoot nDd)]
          rfl
      have keep0 : Keep A.foot H H4 := s03.keep.trans kp4
      have fr0 : ∀ b, D4 b → D b ∨ H b = none := fun b hb => (dd4 b hb).imp id fun z => s03.free z
      have hcl4 : H4 cl = some (.lst (ms.map V.int)) := keep0 _ _ hcl (hF.ofFoot ncl)
      have c1 : cl ≠ nl := ne_of_none hcl hnl
      have c2 : cl ≠ dl := ne_of_none hcl (s1.free (s2.free hdl))
      have c3 : cl ≠ tl := ne_of_none hcl htl0
      have hfr : H nl = none ∧ H dl = none ∧ H tl = none := ⟨hnl, s1.free (s2.free hdl), htl0⟩
      have ncl4 : ¬ D4 cl := fresh_not hcl ncl fr0
      walk_at "z"
      refine ⟨cl, rfl, ⟨_, SqL.of hcl4⟩, for_list (K := K) (a := cl) (xs := ms.map V.int) (fun i σ H' => ∃ D' ps Ps nds x2 x6 x7 x8 x9 x10 x11 x12, σ = [some (.ref p), some (.ref cl), x2, some (.ref nl), some (.ref dl), some (.ref tl), x6, x7, x8, x9, x10, x11, x12] ∧ Stand (He.ga K "Faces") H' p A D' ps nl dl tl Ps nds ∧
          Keep A.foot H H' ∧ (∀ b, D' b → D b ∨ H b = none) ∧ H' cl = some (.lst (ms.map V.int)) ∧ ¬ D' cl ∧ Ps.length ≤ 10 + i)
        ⟨D4, plains 10, plains 10, _, _, _, _, _, _, _, _, _, rfl, st0, keep0, fr0, hcl4, ncl4, by rw [plains_len]; exact Nat.le_refl _⟩ (fun i σ H' _ ⟨_, _, _, _, _, _, _, _, _, _, _, _, _, _, _, _, h, _⟩ => SqL.of h) ?_ ?_⟩
      · rintro i x σ H' hi ⟨D', ps, Ps, nds, x2, x6, x7, x8, x9, x10, x11, x12, rfl, st, kp, fr, hcl', ncl', hlen⟩
        have hil : i < ms.length := by have := (List.getElem?_eq_some_iff.mp hi).1; rw [List.length_map] at this; exact this
        obtain ⟨z, rfl⟩ : ∃ z, x = .int z := by
          rw [List.getElem?_map] at hi
          cases e : ms[i]? with
          | none => rw [e] at hi; cases hi
          | some z => rw [e] at hi; exact ⟨z, (Option.some.inj hi).symm⟩
        obtain ⟨nle, ⟨ws, hws, hwd⟩, nis⟩ := st.N
        have hwl : ws.length = Ps.length := by rw [hwd.len, List.length_map, nle]
        walk_at "z"
        refine z_lenL (SqL.of hws) ?_
        walk_at "z"
        refine ⟨z, _, rfl, fun H5 fq xs s5 f5 a5 => ?_⟩
        have hrg := qu_rg (z := z) (m := (ws.length : Nat)) (by have := st.ten; omega)
        have hql := qu_len z (ws.length : Nat)
        generalize quI z (ws.length : Nat) = l at a5 hrg hql
        obtain ⟨a, b, c, d, rfl⟩ : ∃ a b c d, l = [a, b, c, d] := by
          match l, hql with
          | [a, b, c, d], _ => exact ⟨a, b, c, d, rfl⟩
        rw [hwl] at hrg
        have st5 := st.same s5
        walk_at "z"
        refine ⟨nl, dl, fq, Ps, nds, xs, a, b, c, d, rfl, st5.N, st5.dp, f5, a5, hrg, fun H6 s6 => ?_⟩
        have st6 := st5.same s6
        have s56 := s5.trans s6
        walk_at "z"
        refine z_ite (fun c12 => ?_) (fun c12 => ?_)
        · walk_at "z"
          have hxl : xs.length = 4 := by rw [a5.len]; rfl
          have f6 := s6 _ _ f5
          have a6 := dvAll_same s6 a5
          refine ⟨fq, rfl, ⟨_, SqT.of f6⟩, fun L hL => ?_⟩
          have L1 : L ≠ nl := fun e => by obtain ⟨_, ⟨vs, hv, _⟩, _⟩ := st6.N; rw [← e, hL] at hv; cases hv
          have L2 : L ≠ dl := fun e => by have := st6.dp; rw [← e, hL] at this; cases this
          have L3 : L ≠ tl := fun e => by have := st6.td; rw [← e, hL] at this; cases this
          have nL6 : ¬ D' L := st6.F.nd hL
          refine lc_tup (K := K) (a := fq) (xs := xs) (fun i H' => ∃ qs D7, Stand (He.ga K "Faces") H' p A D7 (ps ++ qs) nl dl tl Ps nds ∧ Keep A.foot H6 H' ∧ (∀ b, D7 b → D' b ∨ H6 b = none) ∧ ¬ D7 L ∧ H' L = some (.lst (([a, b, c, d].take i).map fun x => V.int (ix (ps ++ qs) (atP Ps x) : Nat))) ∧ ∀ x ∈ [a, b, c, d].take i, atP Ps x ∈ ps ++ qs)
            ⟨[], D', by rw [List.append_nil]; exact st6.same (Same.new hL), (Keep.refl _ _).setNew hL, fun b h => .inl h, nL6, upd_same, fun x hx => by simp at hx⟩ (fun i H' _ ⟨_, _, _, kp7, _⟩ => SqT.of (kp7.tup st6.F _ _ f6)) ?_ ?_
          · rintro i v H7 hi ⟨qs, D7, st7, kp7, fr7, nL7, f7, m7⟩
            have a7 := dvAll_stay (kp7.tup st6.F) (flat_pairs _) a6
            obtain ⟨u, w, r, e1, rfl, hw, hr1, hr2, hu1, hu2⟩ := quads_get a7 hrg hi
            have hi4 : i < 4 := by have := (List.getElem?_eq_some_iff.mp hi).1; omega
            have hrm : r ∈ ps ++ qs := st7.mem r (List.mem_of_getElem? hr1)
            obtain ⟨dx7, ob7⟩ := st7.F.ob
            walk_at "zw"
            refine z_gTup (SqT.of hw) rfl ?_
            walk_at "z"
            refine ⟨rfl, ?_⟩
            walk_at "z"
            refine z_methR ob7 noFaces_turned ?_
            walk_at "z"
            refine z_ixL (SqL.of st7.td) (atI_of (n := u.1.toNat) (v := .int (ix (ps ++ qs) r : Nat)) (by rw [List.getElem?_map, hr1]; rfl) (by omega)) ?_
            walk_at "z"
            refine ⟨p, A, D7, ps ++ qs, Ps, _, _, rfl, st7.F, st7.base, by omega, fun no => absurd ⟨(IsF.ix hrm).1, (IsF.ix hrm).lt⟩ no, fun P2 hP2 => ⟨fun no => absurd ⟨hu2.1, by omega⟩ no, fun _ qs2 hB8 H8 D8 kp8 hF8 g1 g2 hm8 => ?_⟩⟩
            obtain rfl := hP2.inj (IsF.ix hrm)
            have st8 := st7.after kp8 hF8 hB8 g2
            have f8 := kp8 _ _ f7 (st7.F.ofFoot nL7)
            have nL8 : ¬ D8 L := fresh_not f7 nL7 g2
            rw [List.append_assoc] at st8 hm8 ⊢
            refine ⟨_, f8, szlt (by simp; omega), qs ++ qs2, D8, st8.updL f8 nL8 L1 L2 L3, (kp7.trans kp8).setNew hL, fun b hb => ?_, nL8, ?_, ?_⟩
            · rcases g2 b hb with z1 | z1
              · exact fr7 b z1
              · exact .inr (back_fresh st7.F kp7 z1)
            · rw [upd_same, List.take_add_one, e1]
              congr 2
              rw [List.map_append]
              congr 1
              · apply List.map_congr_left
                intro x hx
                rw [← List.append_assoc, ix_app (m7 x hx)]
              · simp [hr2]
            · intro x hx
              rw [List.take_add_one, e1] at hx
              rcases List.mem_append.mp hx with z1 | z1
              · rw [← List.append_assoc]; exact List.mem_append_left _ (m7 x z1)
              · simp at z1
                rw [z1, hr2]; exact hm8
          · rintro H7 ⟨qs, D7, st7, kp7, fr7, nL7, f7, m7⟩
            rw [hxl] at f7 m7
            have ma := m7 a (by simp)
            have mb := m7 b (by simp)
            have mc := m7 c (by simp)
            have md := m7 d (by simp)
            have f7' : H7 L = some (.lst [V.int (ix (ps ++ qs) (atP Ps a) : Nat), V.int (ix (ps ++ qs) (atP Ps b) : Nat), V.int (ix (ps ++ qs) (atP Ps c) : Nat), V.int (ix (ps ++ qs) (atP Ps d) : Nat)]) := f7
            obtain ⟨dx7, ob7⟩ := st7.F.ob
            have hle := st7.base.len st7.F.inv.nd
            walk_at "z"
            refine z_methR ob7 noFaces_four ?_
            walk_at "z"
            refine z_ixL (SqL.of f7') (by rfl) ?_
            walk_at "z"
            refine z_ixL (SqL.of f7') (by rfl) ?_
            walk_at "z"
            refine z_ixL (SqL.of f7') (by rfl) ?_
            walk_at "z"
            refine z_ixL (SqL.of f7') (by rfl) ?_
            walk_at "z"
            refine ⟨p, A, D7, ps ++ qs, _, _, _, _, rfl, st7.F, by omega, fun no => absurd ⟨⟨(IsF.ix ma).1, (IsF.ix ma).lt⟩, ⟨(IsF.ix mb).1, (IsF.ix mb).lt⟩, ⟨(IsF.ix mc).1, (IsF.ix mc).lt⟩, ⟨(IsF.ix md).1, (IsF.ix md).lt⟩⟩ no, fun PA PB PC PD hA hB hC hD => ?_⟩
            obtain rfl := hA.inj (IsF.ix ma)
            obtain rfl := hB.inj (IsF.ix mb)
            obtain rfl := hC.inj (IsF.ix mc)
            obtain rfl := hD.inj (IsF.ix md)
            refine ⟨fun deep => absurd c12 (by omega), fun _ H8 D8 kp8 hF8 g1 g2 => ?_⟩
            have hB8 : Base (Ps ++ [Pic.mk (atP Ps a) (atP Ps b) (atP Ps c) (atP Ps d)]) (addP (ps ++ qs) (Pic.mk (atP Ps a) (atP Ps b) (atP Ps c) (atP Ps d))) := (st7.base.mono fun B hB => List.mem_append_left _ hB).add ⟨_, by simp, 0, by decide, (turn_zero _).symm⟩
            have hM8 : Pic.mk (atP Ps a) (atP Ps b) (atP Ps c) (atP Ps d) ∈ addP (ps ++ qs) (Pic.mk (atP Ps a) (atP Ps b) (atP Ps c) (atP Ps d)) := addP_mem _ _
            obtain ⟨rs, ers⟩ := addP_ext (ps ++ qs) (Pic.mk (atP Ps a) (atP Ps b) (atP Ps c) (atP Ps d))
            rw [ers] at hF8 hB8 hM8 ⊢
            obtain ⟨mN, md8, mt8, mm8, mn1, mn2, mn3⟩ := st7.mid kp8 g2 rs
            obtain ⟨nle8, ⟨ws8, hws8, hwd8⟩, nis8⟩ := id mN
            have hwl8 : ws8.length = Ps.length := by rw [hwd8.len, List.length_map, nle8]
            have f68 : H8 fq = some (.tup xs) := (kp8.tup st7.F) _ _ ((kp7.tup st6.F) _ _ f6)
            have a68 : DvAll H8 xs ([a, b, c, d].map pairD) := dvAll_stay (kp8.tup st7.F) (flat_pairs _) (dvAll_stay (kp7.tup st6.F) (flat_pairs _) a6)
            have kpA : Keep A.foot H H8 := (kp.trans s56.keep).trans (kp7.trans kp8)
            have frA : ∀ b, D8 b → D b ∨ H b = none := fun b hb => by
              rcases g2 b hb with z1 | z1
              · rcases fr7 b z1 with z2 | z2
                · exact fr b z2
                · exact .inr (back_fresh st.F kp (s56.free z2))
              · exact .inr (back_fresh st.F kp (s56.free (back_fresh st7.F kp7 z1)))
            have hcl8 : H8 cl = some (.lst (ms.map V.int)) := kpA _ _ hcl (hF.ofFoot ncl)
            walk_at "z"
            refine z_ite (fun c0 => ?_) (fun c0 => ?_)
            · obtain ⟨u, w, r, e1, e2, hw, hr1, hr2, hu1, hu2⟩ := quads_get a68 hrg (k := 0) (v := xs[0]'(by omega)) (List.getElem?_eq_getElem (by omega))
              obtain rfl : a = u := Option.some.inj e1
              walk_at "z"
              refine z_ixT (SqT.of f68) (atI_of (n := 0) (v := .ref w) (by rw [List.getElem?_eq_getElem (by omega), e2]) (by rfl)) ?_
              walk_at "z"
              refine z_ixT (SqT.of hw) (by rfl) ?_
              obtain ⟨ws9, nq, ys, n, h1, h2, h3, h4, h5, h6, h7⟩ := mN.get hr1
              refine z_ixL (SqL.of h1) (atI_of h3 (by omega)) ?_
              have hall : atP Ps a = atP Ps b ∧ atP Ps b = atP Ps c ∧ atP Ps c = atP Ps d ∧ (atP Ps a).depth = 0 := by
                refine Decidable.byContradiction fun z => ?_
                have e9 : Pic.mk (atP Ps a) (atP Ps b) (atP Ps c) (atP Ps d) = .q (atP Ps a) (atP Ps b) (atP Ps c) (atP Ps d) := if_neg z
                rw [e9] at c0
                simp only [Pic.depth] at c0
                omega
              have e9 : Pic.mk (atP Ps a) (atP Ps b) (atP Ps c) (atP Ps d) = atP Ps a := if_pos hall
              obtain ⟨cc, ecc⟩ := depth_zero hall.2.2.2
              have er : r = .p cc := by
                cases r with
                | p c' => rw [hr2] at ecc; exact ecc
                | q _ _ _ _ => rw [hr2] at ecc; cases ecc
              have hn : NdIs Ps (Pic.mk (atP Ps a) (atP Ps b) (atP Ps c) (atP Ps d)) n := by
                rw [e9, ecc, ← er]
                exact h5
              have hv := h6
              walk_at "z"
              refine z_tyL (SqL.of hws8) ?_
              walk_at "z"
              refine z_app hws8 (szlt (by omega)) ?_
              walk_at "z"
              have x1 : ∀ o, upd H8 nl o dl = some (.lst (Ps.map fun P => V.int (P.depth : Nat))) := fun o => by rw [upd_ne st7.d1.symm]; exact md8
              refine z_tyL (SqL.of (x1 _)) ?_
              walk_at "z"
              refine z_app (x1 _) (by rw [List.length_map]; exact szlt (by omega)) ?_
              walk_at "z"
              have x2 : ∀ o o', upd (upd H8 nl o) dl o' tl = some (.lst (Ps.map fun P => V.int (ix (ps ++ qs ++ rs) P : Nat))) := fun o o' => by rw [upd_ne st7.d3.symm, upd_ne st7.d2.symm]; exact mt8
              refine z_tyL (SqL.of (x2 _ _)) ?_
              walk_at "z"
              refine z_app (x2 _ _) (by rw [List.length_map]; exact szlt (by omega)) ?_
              have stF := Stand.push hF8 mN md8 mt8 mm8 hB8 mn1 mn2 mn3 st7.d1 st7.d2 st7.d3 st7.ten hM8 hn hv hws8
              refine ⟨D8, _, _, _, _, _, _, _, _, _, _, _, rfl, stF, ?_, frA, ?_, fresh_not hcl ncl frA, by simp; omega⟩
              · exact ((kpA.setNew hfr.1).setNew hfr.2.1).setNew hfr.2.2
              · rw [upd_ne c3, upd_ne c2, upd_ne c1]; exact hcl8
            · have hall : ¬ (atP Ps a = atP Ps b ∧ atP Ps b = atP Ps c ∧ atP Ps c = atP Ps d ∧ (atP Ps a).depth = 0) := fun z => by
                have e9 : Pic.mk (atP Ps a) (atP Ps b) (atP Ps c) (atP Ps d) = atP Ps a := if_pos z
                rw [e9] at c0
                omega
              have hn : NdIs Ps (Pic.mk (atP Ps a) (atP Ps b) (atP Ps c) (atP Ps d)) (.qu [a, b, c, d]) := ⟨a, b, c, d, rfl, if_neg hall, hrg⟩
              have hv : Dv H8 (.ref fq) (Nd.qu [a, b, c, d]).data := .tup f68 a68
              walk_at "z"
              refine z_tyL (SqL.of hws8) ?_
              walk_at "z"
              refine z_app hws8 (szlt (by omega)) ?_
              walk_at "z"
              have x1 : ∀ o, upd H8 nl o dl = some (.lst (Ps.map fun P => V.int (P.depth : Nat))) := fun o => by rw [upd_ne st7.d1.symm]; exact md8
              refine z_tyL (SqL.of (x1 _)) ?_
              walk_at "z"
              refine z_app (x1 _) (by rw [List.length_map]; exact szlt (by omega)) ?_
              walk_at "z"
              have x2 : ∀ o o', upd (upd H8 nl o) dl o' tl = some (.lst (Ps.map fun P => V.int (ix (ps ++ qs ++ rs) P : Nat))) := fun o o' => by rw [upd_ne st7.d3.symm, upd_ne st7.d2.symm]; exact mt8
              refine z_tyL (SqL.of (x2 _ _)) ?_
              walk_at "z"
              refine z_app (x2 _ _) (by rw [List.length_map]; exact szlt (by omega)) ?_
              have stF := Stand.push hF8 mN md8 mt8 mm8 hB8 mn1 mn2 mn3 st7.d1 st7.d2 st7.d3 st7.ten hM8 hn hv hws8
              refine ⟨D8, _, _, _, _, _, _, _, _, _, _, _, rfl, stF, ?_, frA, ?_, fresh_not hcl ncl frA, by simp; omega⟩
              · exact ((kpA.setNew hfr.1).setNew hfr.2.1).setNew hfr.2.2
              · rw [upd_ne c3, upd_ne c2, upd_ne c1]; exact hcl8
        · walk_at "z"
          exact ⟨D', ps, Ps, nds, _, _, _, _, _, _, _, _, rfl, st6, kp.trans s56.keep, fr, s56 _ _ hcl', ncl', by omega⟩
      · rintro σ H' ⟨D', ps, Ps, nds, x2, x6, x7, x8, x9, x10, x11, x12, rfl, st, kp, fr, hcl', ncl', hlen⟩
        rw [List.length_map] at hlen
        walk_at "z"
        walk_at "zt"
        rename_i T nT H9 s9 f9
        exact q H9 T nl dl tl D' ps Ps nds (kp.trans s9.keep) fr f9 (st.same s9) hlen hfr
def cell (ns : List Int) (k : Nat) : Int := ns.getD k 0
def spCell (K : PySem.W.Frag) : Sp := fun vs H Q _ => ∃ (a : Addr) (ns : List Int) (k : Nat), vs = [.ref a, .int k] ∧ SqL K H a (ns.map V.int) ∧ Q (.int (cell ns k)) H
abbrev n_law_cell : List Str := ["_law_script", "_law_k"]
abbrev p_law_cell : List Str := ["_law_script", "_law_k"]
theorem sc_law_cell : FnScope n_law_cell p_law_cell (defScope s_law_cell) := ⟨rfl, rfl, rfl, by decide +kernel, rfl, by decide +kernel, by decide +kernel⟩
theorem ok__law_cell {P : Program} {w : World} {K : PySem.W.Frag} {mg : Str → Option Value} {base : Heap} (T : Tb w K mg base) : Fk P w K mg base 1 (He.ga K "_law_cell") p_law_cell (spCell K) := by
  refine Fk.mk' T.f_law_cell sc_law_cell (fun _ _ _ _ _ _ us hl => match us, hl with | [_, _], _ => rfl) (by
  intro vs H Q E h
  repeat (first | (obtain ⟨h1, _⟩ := h; subst h1; rfl) | (obtain ⟨_, h⟩ := h))) (fun cdv A outer s H vs Q E hr h => ?_)
  have hu := hu_of hr
  have hu64 := hr.units
  refine ⟨_, (pss_cons (ps_if (pt_cmpR op_lt (pv 1) (pe_callB (k_len K) (by rfl) T.ulen (by decide +kernel) (pa_cons (pv 0) pa_nil)) (nomark _)) (pss_one (ps_ret (k_ix K (pv 0) (pv 1) (fun _ _ => rfl)))) pss_nil)
  (pss_one (ps_ret pe_int))), ?_⟩
  try dsimp only [cxOf]
  obtain ⟨a, ns, k, rfl, hs, q⟩ := h
  walk_at "z"
  refine z_lenL hs ?_
  walk_at "z"
  rw [List.length_map]
  refine z_ite (fun c => ?_) (fun c => ?_)
  · walk_at "z"
    refine z_ixL hs (atI_of (n := k) (v := .int (cell ns k)) ?_ rfl) q
    have hk : k < ns.length := by omega
    rw [List.getElem?_map, List.getElem?_eq_getElem hk]
    simp [cell, hk]
  · walk_at "z"
    have e : cell ns k = 0 := by simp [cell]; rw [List.getElem?_eq_none (by omega)]; rfl
    rw [e] at q
    exact q
def spDepth (C N : Addr) : Sp := fun vs H Q E => ∃ p A D ps, ∃ f : Int, vs = [.ref p, .int f] ∧ FacesAt C H p A D ps ∧ (∀ P, IsF ps f P → Q (.int (P.depth : Nat)) H) ∧ (¬ (0 ≤ f ∧ f < ps.length) → E (.ref N) none H)
abbrev nFaces_depth : List Str := ["self", "face"]
abbrev pFaces_depth : List Str := ["self", "face"]
theorem scFaces_depth : FnScope nFaces_depth pFaces_depth (defScope sFaces_depth) := ⟨rfl, rfl, rfl, by decide +kernel, rfl, by decide +kernel, by decide +kernel⟩
theorem ok_Faces_depth {P : Program} {w : World} {K : PySem.W.Frag} {mg : Str → Option Value} {base : Heap} (T : Tb w K mg base) : Fk P w K mg base 2 (He.ma K (He.ga K "Faces") "depth") pFaces_depth (spDepth (He.ga K "Faces") (He.ga K "NoFace")) := by
  have GFaces_need := ok_Faces_need (P := P) (w := w) (base := base) T
  refine Fk.mk' T.fFaces_depth scFaces_depth (fun _ _ _ _ _ _ us hl => match us, hl with | [_, _], _ => rfl) (by
  intro vs H Q E h
  repeat (first | (obtain ⟨h1, _⟩ := h; subst h1; rfl) | (obtain ⟨_, h⟩ := h))) (fun cdv A outer s H vs Q E hr h => ?_)
  have hu := hu_of hr
  have hu64 := hr.units
  refine ⟨_, (pss_cons (ps_expr (q_meth (pv 0) T.cFaces T.mFaces_need GFaces_need (hr.mono (by omega)) passX (pa_cons (pv 1) pa_nil)))
  (pss_one (ps_ret (k_ix K (k_fld K (pv 0) rfl) (pv 1) (fun _ _ => rfl))))), ?_⟩
  try dsimp only [cxOf]
  obtain ⟨p, A, D, ps, f, rfl, hF, q, e⟩ := h
  obtain ⟨dx, ob⟩ := hF.ob
  walk_at "z"
  refine z_methR ob noFaces_need ?_
  walk_at "z"
  refine ⟨p, A, D, ps, f, rfl, hF, fun c => ?_, e⟩
  obtain ⟨P, hP⟩ := IsF.ex c.1 c.2
  walk_at "z"
  refine z_fldR ob T.cFaces T.aFaces_depths lkFaces_depths ?_
  walk_at "z"
  exact z_ixL (SqL.of hF.depths) (FacesAt.depthAt hP) (q P hP)
def minL : Nat → (Nat → Nat) → Nat
  | 0, f => f 0
  | n + 1, f => min (minL n f) (f (n + 1))
theorem minL_le {f : Nat → Nat} : ∀ {n i : Nat}, i ≤ n → minL n f ≤ f i
  | 0, i, h => by obtain rfl : i = 0 := by omega
                  exact Nat.le_refl _
  | n + 1, i, h => by
    simp only [minL]
    by_cases e : i = n + 1
    · subst e; omega
    · have := minL_le (f := f) (n := n) (i := i) (by omega)
      omega
theorem minL_at {f : Nat → Nat} : ∀ n : Nat, ∃ i, i ≤ n ∧ minL n f = f i
  | 0 => ⟨0, Nat.le_refl _, rfl⟩
  | n + 1 => by
    obtain ⟨i, h1, h2⟩ := minL_at (f := f) n
    simp only [minL]
    by_cases e : minL n f ≤ f (n + 1)
    · exact ⟨i, by omega, by omega⟩
    · exact ⟨n + 1, Nat.le_refl _, by omega⟩
theorem minL_ext {f g : Nat → Nat} : ∀ {n : Nat}, (∀ i, i ≤ n → f i = g i) → minL n f = minL n g
  | 0, h => h 0 (Nat.le_refl _)
  | n + 1, h => by
    simp only [minL]
    rw [minL_ext (f := f) (g := g) (n := n) fun i hi => h i (by omega), h (n + 1) (Nat.le_refl _)]
/-- the least number of the eight turned pictures -/
def kindN (ps : List Pic) (P : Pic) : Nat := minL 7 fun t => ix ps (P.turn (t : Nat))
def AllT (ps : List Pic) (P : Pic) : Prop := ∀ t : Int, 0 ≤ t → t < 8 → P.turn t ∈ ps
theorem AllT.app {ps qs : List Pic} {P : Pic} (h : AllT ps P) : AllT (ps ++ qs) P := fun t a b => List.mem_append_left _ (h t a b)
theorem kindN_app {ps qs : List Pic} {P : Pic} (h : AllT ps P) : kindN (ps ++ qs) P = kindN ps P := minL_ext fun i hi => ix_app (h i (by omega) (by omega))
theorem AllT.turn {ps : List Pic} {P : Pic} (h : AllT ps P) {u : Int} (u0 : 0 ≤ u) (u8 : u < 8) : AllT ps (P.turn u) := fun t a b => by
  rw [turn_turn u0 u8 a b]
  exact h _ (after_rg u0 u8 a b).1 (after_rg u0 u8 a b).2
theorem turn_of {P O : Pic} {t : Int} (t0 : 0 ≤ t) (t8 : t < 8) (e : P.turn t = O) : ∃ u : Int, (0 ≤ u ∧ u < 8) ∧ O.turn u = P := by
  obtain ⟨b, b0, b8, hb⟩ := turn_back t0 t8
  exact ⟨b, ⟨b0, b8⟩, by rw [← e]; exact hb P⟩
theorem kindN_mem (ps : List Pic) (P : Pic) : ∃ t : Int, (0 ≤ t ∧ t < 8) ∧ kindN ps P = ix ps (P.turn t) := by
  obtain ⟨i, h1, h2⟩ := minL_at (f := fun t : Nat => ix ps (P.turn (t : Nat))) 7
  exact ⟨(i : Nat), by omega, h2⟩
theorem kindN_le (ps : List Pic) (P : Pic) {t : Int} (t0 : 0 ≤ t) (t8 : t < 8) : kindN ps P ≤ ix ps (P.turn t) := by
  have h := minL_le (f := fun t : Nat => ix ps (P.turn (t : Nat))) (n := 7) (i := t.toNat) (by omega)
  have e : ((t.toNat : Nat) : Int) = t := Int.toNat_of_nonneg t0
  simp only [e] at h
  exact h
theorem kindN_turn (ps : List Pic) {P : Pic} {u : Int} (u0 : 0 ≤ u) (u8 : u < 8) : kindN ps (P.turn u) = kindN ps P := by
  have one : ∀ (P : Pic) (u : Int), 0 ≤ u → u < 8 → kindN ps P ≤ kindN ps (P.turn u) := fun P u u0 u8 => by
    obtain ⟨t, ht, e⟩ := kindN_mem ps (P.turn u)
    rw [e, turn_turn u0 u8 ht.1 ht.2]
    exact kindN_le ps P (after_rg u0 u8 ht.1 ht.2).1 (after_rg u0 u8 ht.1 ht.2).2
  obtain ⟨b, ⟨b0, b8⟩, hb⟩ := turn_of u0 u8 (rfl : P.turn u = P.turn u)
  have h1 := one P u u0 u8
  have h2 := one (P.turn u) b b0 b8
  rw [hb] at h2
  omega
theorem kindN_eq {ps : List Pic} {P O : Pic} (hP : AllT ps P) (hO : AllT ps O) (e : kindN ps P = kindN ps O) : ∃ t : Int, (0 ≤ t ∧ t < 8) ∧ P.turn t = O := by
  obtain ⟨a, ha, ea⟩ := kindN_mem ps P
  obtain ⟨b, hb, eb⟩ := kindN_mem ps O
  have h := ix_inj (hP a ha.1 ha.2) (hO b hb.1 hb.2) (by omega)
  obtain ⟨c, ⟨c0, c8⟩, hc⟩ := turn_of hb.1 hb.2 (rfl : O.turn b = O.turn b)
  exact ⟨afterI a c, after_rg ha.1 ha.2 c0 c8, by rw [← turn_turn ha.1 ha.2 c0 c8, h, hc]⟩
def spKind (C N : Addr) : Sp := fun vs H Q E => ∃ p A D ps bs, ∃ f : Int, vs = [.ref p, .int f] ∧ FacesAt C H p A D ps ∧ Base bs ps ∧ bs.length ≤ 10000 ∧ (¬ (0 ≤ f ∧ f < ps.length) → E (.ref N) none H) ∧
  ∀ P, IsF ps f P → AfterX C H p A D bs ps fun ps' H' => AllT ps' P → Q (.int (kindN ps' P : Nat)) H'
theorem FacesAt.extN {C : Addr} {H H' : Hp} {p : Addr} {A : FA} {D : Addr → Prop} {ps : List Pic} (h : FacesAt C H p A D ps) (e : LamX.ExtN H H') : FacesAt C H' p A (fun b => D b ∧ ∀ t, H b ≠ some (.tbl t)) ps := by
  have h2 : FacesAt C H p A (fun b => D b ∧ ∀ t, H b ≠ some (.tbl t)) ps := by
    obtain ⟨⟨dx, ob⟩, ⟨ns, n1, n2, n3⟩, dd, ⟨ss, s1, s2, s3⟩, ⟨kvs, k1, k2⟩, ⟨wh, w1, w2⟩, inv, dp, df, ex, ap⟩ := h
    refine ⟨⟨dx, ob⟩, ⟨ns, n1, n2, fun i a P e1 e2 => ⟨⟨(n3 i a P e1 e2).1, fun t z => by rw [(n3 i a P e1 e2).2] at z; cases z⟩, (n3 i a P e1 e2).2⟩⟩, dd, ⟨ss, s1, s2, fun i a P e1 e2 => ⟨⟨(s3 i a P e1 e2).1, fun t z => by rw [(s3 i a P e1 e2).2.2] at z; cases z⟩, (s3 i a P e1 e2).2⟩⟩, ⟨kvs, k1, k2⟩, ⟨wh, w1, w2⟩, inv, ⟨dp, fun t z => by rw [ob] at z; cases z⟩, fun b hb => ⟨df b hb, fun t z => ?_⟩, fun b hb => ex b hb.1, ap⟩
    rcases hb with rfl | rfl | rfl | rfl | rfl
    · rw [n1] at z; cases z
    · rw [dd] at z; cases z
    · rw [s1] at z; cases z
    · rw [k1] at z; cases z
    · rw [w1] at z; cases z
  exact h2.keep fun b o hb q => e b o q fun t z => hb.2 t (by rw [q, z])
/-- the depth of the face of a number -/
def depN (ps : List Pic) (n : Int) : Int := match ps[n.toNat]? with
  | some P => (P.depth : Nat)
  | none => 0
theorem depN_of {ps : List Pic} {n : Int} {P : Pic} (h : IsF ps n P) : depN ps n = (P.depth : Nat) := by
  unfold depN
  rw [h.2]
def gD (ps : List Pic) (n : Int) : Int × Int := (0 - depN ps n, n)
def sortK (ps : List Pic) (ns : List Int) : List Int := ns.mergeSort (PySem.W.dataLe false (kd (gD ps)))
theorem sql_extN {K : PySem.W.Frag} {H H' : Hp} {a : Addr} {xs : List V} (h : SqL K H a xs) (e : LamX.ExtN H H') : SqL K H' a xs := by
  rcases h with (h | ⟨o, h⟩) | h
  · exact .inl (.inl (e _ _ h fun t z => by cases z))
  · exact .inl (.inr ⟨o, e _ _ h fun t z => by cases z⟩)
  · exact .inr h
def spSortK (K : PySem.W.Frag) : Sp := fun vs H Q _ => ∃ p A D ps l ns, vs = [.ref p, .ref l] ∧ FacesAt (He.ga K "Faces") H p A D ps ∧ SqL K H l (ns.map V.int) ∧ (∀ n ∈ ns, ∃ P, IsF ps n P) ∧ LamX.Tabs (tT K) H ∧ ∀ H' q, LamX.ExtN H H' → LamX.Tabs (tT K) H' → (∀ o, H q = some o → ∃ t, o = .tbl t) → H' q = some (.lst ((sortK ps ns).map V.int)) → Q (.ref q) H'
/-! the parts of a picture, kind by kind -/
def Pic.kids : Pic → List Pic
  | .p _ => []
  | .q a b c d => [a, b, c, d]
/-- turned to each other -/
def Kin (P Q : Pic) : Prop := ∃ t : Int, (0 ≤ t ∧ t < 8) ∧ P.turn t = Q
theorem Kin.refl (P : Pic) : Kin P P := ⟨0, by decide, turn_zero P⟩
theorem Kin.symm {P Q : Pic} (h : Kin P Q) : Kin Q P := by
  obtain ⟨t, ht, e⟩ := h
  exact turn_of ht.1 ht.2 e
theorem Kin.trans {P Q R : Pic} (h : Kin P Q) (g : Kin Q R) : Kin P R := by
  obtain ⟨t, ht, rfl⟩ := h
  obtain ⟨u, hu, rfl⟩ := g
  exact ⟨afterI t u, after_rg ht.1 ht.2 hu.1 hu.2, (turn_turn ht.1 ht.2 hu.1 hu.2 P).symm⟩
theorem Kin.depth {P Q : Pic} (h : Kin P Q) : Q.depth = P.depth := by
  obtain ⟨t, ht, rfl⟩ := h
  exact turn_depth ht.1 ht.2 P
theorem arr_mem {α : Type} {t : Int} (h0 : 0 ≤ t) (h8 : t < 8) (a b c d : α) : ∀ x ∈ [a, b, c, d], x = (arr t (a, b, c, d)).1 ∨ x = (arr t (a, b, c, d)).2.1 ∨ x = (arr t (a, b, c, d)).2.2.1 ∨ x = (arr t (a, b, c, d)).2.2.2 := by
  intro x hx
  simp only [List.mem_cons, List.not_mem_nil, or_false] at hx
  rcases eight h0 h8 with rfl | rfl | rfl | rfl | rfl | rfl | rfl | rfl <;> simp [arr, rots4, rot4] <;> rcases hx with rfl | rfl | rfl | rfl <;> simp
theorem Kin.kids {P Q : Pic} (h : Kin P Q) {X : Pic} (hX : X ∈ P.kids) : ∃ Y ∈ Q.kids, Kin X Y := by
  obtain ⟨t, ht, rfl⟩ := h
  cases P with
  | p c => cases hX
  | q a b c d =>
    refine ⟨X.turn t, ?_, t, ht, rfl⟩
    rw [turn_q]
    have hm : X.turn t ∈ [a.turn t, b.turn t, c.turn t, d.turn t] := List.mem_map_of_mem (f := Pic.turn t) (show X ∈ [a, b, c, d] from hX)
    have := arr_mem ht.1 ht.2 _ _ _ _ _ hm
    simp only [q4, Pic.kids, List.mem_cons, List.not_mem_nil, or_false]
    exact this
/-- the parts that must be bundled: not into what h holds of -/
inductive Sub (h : Pic → Prop) : Pic → Pic → Prop
  | self {P : Pic} : P.depth ≠ 0 → ¬ h P → Sub h P P
  | kid {P X Q : Pic} : P.depth ≠ 0 → ¬ h P → X ∈ P.kids → Sub h X Q → Sub h P Q
def TurnInv (h : Pic → Prop) : Prop := ∀ P Q, Kin P Q → h P → h Q
theorem Sub.kin {h : Pic → Prop} (hi : TurnInv h) {P Q : Pic} (s : Sub h P Q) : ∀ {P'}, Kin P P' → ∃ Q', Kin Q Q' ∧ Sub h P' Q' := by
  induction s with
  | self d n => exact fun {P'} k => ⟨P', k, .self (by rw [k.depth]; exact d) fun z => n (hi _ _ k.symm z)⟩
  | kid d n hX _ ih =>
    intro P' k
    obtain ⟨Y, hY, kX⟩ := k.kids hX
    obtain ⟨Q', kQ, s'⟩ := ih kX
    exact ⟨Q', kQ, .kid (by rw [k.depth]; exact d) (fun z => n (hi _ _ k.symm z)) hY s'⟩
/-- going through: found kinds Fs with their numbers ks, waiting Ws -/
structure Going (h : Pic → Prop) (P : Pic) (ps : List Pic) (Fs Ws : List Pic) (ks : List Int) : Prop where
  keys : ks = Fs.map fun F => ((kindN ps F : Nat) : Int)
  all : ∀ F ∈ Fs, AllT ps F
  nd : ks.Nodup
  snd : ∀ F ∈ Fs, ∃ Q, Kin F Q ∧ Sub h P Q
  wsn : ∀ W ∈ Ws, ∀ Q, Sub h W Q → ∃ Q', Kin Q Q' ∧ Sub h P Q'
  cl : ∀ F ∈ Fs, ∀ X ∈ F.kids, X.depth = 0 ∨ h X ∨ (∃ F' ∈ Fs, Kin X F') ∨ ∃ W ∈ Ws, Kin X W
  st : P.depth = 0 ∨ h P ∨ (∃ F ∈ Fs, Kin P F) ∨ ∃ W ∈ Ws, Kin P W
section
variable {h : Pic → Prop} {P R F : Pic} {ps qs Fs Ws : List Pic} {ks : List Int}
theorem Going.start : Going h P ps [] [P] [] := ⟨rfl, by simp, by simp, by simp, fun W hW Q s => by
  rw [List.mem_singleton.mp hW] at s
  exact ⟨Q, Kin.refl Q, s⟩, by simp, .inr (.inr (.inr ⟨P, by simp, Kin.refl P⟩))⟩
theorem Going.app (g : Going h P ps Fs Ws ks) : Going h P (ps ++ qs) Fs Ws ks :=
  ⟨by rw [g.keys]; exact List.map_congr_left fun F hF => by rw [kindN_app (g.all F hF)], fun F hF => (g.all F hF).app, g.nd, g.snd, g.wsn, g.cl, g.st⟩
theorem Going.mem (g : Going h P ps Fs Ws ks) (hR : AllT ps R) : ((kindN ps R : Nat) : Int) ∈ ks ↔ ∃ F ∈ Fs, Kin R F := by
  rw [g.keys, List.mem_map]
  constructor
  · rintro ⟨F, hF, e⟩
    exact ⟨F, hF, kindN_eq hR (g.all F hF) (by omega)⟩
  · rintro ⟨F, hF, t, ht, rfl⟩
    exact ⟨_, hF, by rw [kindN_turn ps ht.1 ht.2]⟩
/-- one that need not be bundled, or is found, is left out -/
theorem Going.skip (hi : TurnInv h) (g : Going h P ps Fs (Ws ++ [R]) ks) (w : R.depth = 0 ∨ h R ∨ ∃ F ∈ Fs, Kin R F) : Going h P ps Fs Ws ks := by
  have key : ∀ X, (X.depth = 0 ∨ h X ∨ (∃ F' ∈ Fs, Kin X F') ∨ ∃ W ∈ Ws ++ [R], Kin X W) → (X.depth = 0 ∨ h X ∨ (∃ F' ∈ Fs, Kin X F') ∨ ∃ W ∈ Ws, Kin X W) := fun X q => by
    rcases q with q | q | q | ⟨W, hW, k⟩
    · exact .inl q
    · exact .inr (.inl q)
    · exact .inr (.inr (.inl q))
    · rcases List.mem_append.mp hW with z | z
      · exact .inr (.inr (.inr ⟨W, z, k⟩))
      · rw [List.mem_singleton.mp z] at k
        rcases w with w | w | ⟨F, hF, w⟩
        · exact .inl (by rw [← k.depth]; exact w)
        · exact .inr (.inl (hi _ _ k.symm w))
        · exact .inr (.inr (.inl ⟨F, hF, k.trans w⟩))
  exact ⟨g.keys, g.all, g.nd, g.snd, fun W hW => g.wsn W (List.mem_append_left _ hW), fun F hF X hX => key X (g.cl F hF X hX), key P g.st⟩
/-- a new kind, by a picture F of it -/
theorem Going.take (hi : TurnInv h) (g : Going h P ps Fs (Ws ++ [R]) ks) (d : R.depth ≠ 0) (n : ¬ h R) (kF : Kin R F) (aF : AllT ps F) (new : ¬ ∃ F ∈ Fs, Kin R F) : Going h P ps (Fs ++ [F]) (Ws ++ F.kids) (ks ++ [((kindN ps F : Nat) : Int)]) := by
  have key : ∀ X, (X.depth = 0 ∨ h X ∨ (∃ F' ∈ Fs, Kin X F') ∨ ∃ W ∈ Ws ++ [R], Kin X W) → (X.depth = 0 ∨ h X ∨ (∃ F' ∈ Fs ++ [F], Kin X F') ∨ ∃ W ∈ Ws ++ F.kids, Kin X W) := fun X q => by
    rcases q with q | q | ⟨F', hF', k⟩ | ⟨W, hW, k⟩
    · exact .inl q
    · exact .inr (.inl q)
    · exact .inr (.inr (.inl ⟨F', List.mem_append_left _ hF', k⟩))
    · rcases List.mem_append.mp hW with z | z
      · exact .inr (.inr (.inr ⟨W, List.mem_append_left _ z, k⟩))
      · rw [List.mem_singleton.mp z] at k
        exact .inr (.inr (.inl ⟨F, by simp, k.trans kF⟩))
  have sF : Sub h F F := .self (by rw [kF.depth]; exact d) fun z => n (hi _ _ kF.symm z)
  have sR : ∀ Q, Sub h F Q → ∃ Q', Kin Q Q' ∧ Sub h P Q' := fun Q s => by
    obtain ⟨Q1, k1, s1⟩ := s.kin hi kF.symm
    obtain ⟨Q2, k2, s2⟩ := g.wsn R (by simp) Q1 s1
    exact ⟨Q2, k1.trans k2, s2⟩
  refine ⟨by rw [g.keys, List.map_append]; rfl, fun F' hF' => ?_, ?_, fun F' hF' => ?_, fun W hW Q s => ?_, fun F' hF' X hX => ?_, key P g.st⟩
  · rcases List.mem_append.mp hF' with z | z
    · exact g.all F' z
    · rw [List.mem_singleton.mp z]; exact aF
  · rw [List.nodup_append]
    refine ⟨g.nd, by simp, fun a ha b hb e => new ?_⟩
    rw [List.mem_singleton.mp hb] at e
    rw [e] at ha
    obtain ⟨F', hF', k⟩ := (g.mem aF).mp ha
    exact ⟨F', hF', kF.trans k⟩
  · rcases List.mem_append.mp hF' with z | z
    · exact g.snd F' z
    · rw [List.mem_singleton.mp z]; exact sR F sF
  · rcases List.mem_append.mp hW with z | z
    · exact g.wsn W (List.mem_append_left _ z) Q s
    · exact sR Q (.kid (by rw [kF.depth]; exact d) (fun z => n (hi _ _ kF.symm z)) z s)
  · rcases List.mem_append.mp hF' with z | z
    · exact key X (g.cl F' z X hX)
    · rw [List.mem_singleton.mp z] at hX
      exact .inr (.inr (.inr ⟨X, List.mem_append_right _ hX, Kin.refl X⟩))
/-- the parts of P, all kinds once -/
structure IsParts (h : Pic → Prop) (ps : List Pic) (P : Pic) (ks : List Int) : Prop where
  nd : ks.Nodup
  all : ∀ Q, Sub h P Q → AllT ps Q
  mem : ∀ k : Int, k ∈ ks ↔ ∃ Q, Sub h P Q ∧ k = ((kindN ps Q : Nat) : Int)
theorem AllT.kin {P Q : Pic} (a : AllT ps P) (k : Kin P Q) : AllT ps Q := by
  obtain ⟨t, ht, rfl⟩ := k
  exact a.turn ht.1 ht.2
theorem Kin.num {P Q : Pic} (k : Kin P Q) (ps : List Pic) : kindN ps Q = kindN ps P := by
  obtain ⟨t, ht, rfl⟩ := k
  exact kindN_turn ps ht.1 ht.2
theorem Going.done (hi : TurnInv h) (g : Going h P ps Fs [] ks) : IsParts h ps P ks := by
  have reach : ∀ {P0 Q}, Sub h P0 Q → (P0.depth = 0 ∨ h P0 ∨ (∃ F ∈ Fs, Kin P0 F) ∨ ∃ W ∈ ([] : List Pic), Kin P0 W) → ∃ F ∈ Fs, Kin Q F := fun {P0 Q} s => by
    induction s with
    | self d n =>
      intro q
      rcases q with q | q | q | ⟨W, hW, _⟩
      · exact absurd q d
      · exact absurd q n
      · exact q
      · cases hW
    | kid d n hX _ ih =>
      intro q
      rcases q with q | q | ⟨F, hF, k⟩ | ⟨W, hW, _⟩
      · exact absurd q d
      · exact absurd q n
      · obtain ⟨Y, hY, kX⟩ := k.kids hX
        refine ih ?_
        rcases g.cl F hF Y hY with z | z | ⟨F', hF', z⟩ | ⟨W, hW, _⟩
        · exact .inl (by rw [← kX.depth]; exact z)
        · exact .inr (.inl (hi _ _ kX.symm z))
        · exact .inr (.inr (.inl ⟨F', hF', kX.trans z⟩))
        · cases hW
      · cases hW
  have all : ∀ Q, Sub h P Q → AllT ps Q := fun Q s => by
    obtain ⟨F, hF, k⟩ := reach s g.st
    exact (g.all F hF).kin k.symm
  refine ⟨g.nd, all, fun k => ?_⟩
  constructor
  · intro hk
    rw [g.keys] at hk
    obtain ⟨F, hF, rfl⟩ := List.mem_map.mp hk
    obtain ⟨Q, kQ, s⟩ := g.snd F hF
    exact ⟨Q, s, by rw [kQ.num]⟩
  · rintro ⟨Q, s, rfl⟩
    obtain ⟨F, hF, kF⟩ := reach s g.st
    exact (g.mem (all Q s)).mpr ⟨F, hF, kF⟩
theorem IsParts.app (p : IsParts h ps P ks) : IsParts h (ps ++ qs) P ks :=
  ⟨p.nd, fun Q s => (p.all Q s).app, fun k => by
    rw [p.mem]
    constructor
    · rintro ⟨Q, s, e⟩; exact ⟨Q, s, by rw [e, kindN_app (p.all Q s)]⟩
    · rintro ⟨Q, s, e⟩; exact ⟨Q, s, by rw [e, kindN_app (p.all Q s)]⟩⟩
theorem IsParts.kin {P' : Pic} (hi : TurnInv h) (p : IsParts h ps P ks) (k : Kin P P') : IsParts h ps P' ks := by
  refine ⟨p.nd, fun Q s => ?_, fun n => ?_⟩
  · obtain ⟨Q', kQ, s'⟩ := s.kin hi k.symm
    exact (p.all Q' s').kin kQ.symm
  · rw [p.mem]
    constructor
    · rintro ⟨Q, s, e⟩
      obtain ⟨Q', kQ, s'⟩ := s.kin hi k
      exact ⟨Q', s', by rw [e, kQ.num]⟩
    · rintro ⟨Q, s, e⟩
      obtain ⟨Q', kQ, s'⟩ := s.kin hi k.symm
      exact ⟨Q', s', by rw [e, kQ.num]⟩
theorem IsParts.isF (nd : ps.Nodup) (p : IsParts h ps P ks) : ∀ k ∈ ks, ∃ Q, IsF ps k Q := fun k hk => by
  obtain ⟨Q, s, rfl⟩ := (p.mem k).mp hk
  obtain ⟨t, ht, e⟩ := kindN_mem ps Q
  exact ⟨Q.turn t, by rw [e]; exact IsF.ix (p.all Q s t ht.1 ht.2)⟩
end
/-- an order that tells all apart -/
def ltK (g : Int → Int × Int) (a b : Int) : Bool := decide ((g a).1 < (g b).1 ∨ ((g a).1 = (g b).1 ∧ (g a).2 ≤ (g b).2))
theorem dataLe_kd (g : Int → Int × Int) : PySem.W.dataLe false (kd g) = ltK g := PySem.W.dataLe_ii (fun b => (g b).1) (fun b => (g b).2)
theorem sorted_one {g : Int → Int × Int} (inj : ∀ a b, (g a).2 = (g b).2 → a = b) : ∀ {l m : List Int}, l.Perm m → l.Pairwise (fun a b => ltK g a b = true) → m.Pairwise (fun a b => ltK g a b = true) → l = m
  | [], m, p, _, _ => by rw [List.nil_perm.mp p]
  | a :: l, [], p, _, _ => absurd p.length_eq (by simp)
  | a :: l, b :: m, p, hl, hm => by
    have e : a = b := by
      have h1 : a ∈ b :: m := p.mem_iff.mp (by simp)
      have h2 : b ∈ a :: l := p.mem_iff.mpr (by simp)
      rcases List.mem_cons.mp h1 with z | z
      · exact z
      rcases List.mem_cons.mp h2 with y | y
      · exact y.symm
      have i1 := (List.pairwise_cons.mp hm).1 a z
      have i2 := (List.pairwise_cons.mp hl).1 b y
      unfold ltK at i1 i2
      rw [decide_eq_true_eq] at i1 i2
      exact inj a b (by omega)
    subst e
    rw [sorted_one inj (List.perm_cons a |>.mp p) (List.pairwise_cons.mp hl).2 (List.pairwise_cons.mp hm).2]
theorem sortK_pair (ps : List Pic) (ns : List Int) : (sortK ps ns).Pairwise (fun a b => ltK (gD ps) a b = true) := by
  unfold sortK
  rw [dataLe_kd]
  refine List.pairwise_mergeSort (fun a b c h1 h2 => ?_) (fun a b => ?_) ns
  · unfold ltK at *
    rw [decide_eq_true_eq] at *
    omega
  · unfold ltK
    rw [Bool.or_eq_true, decide_eq_true_eq, decide_eq_true_eq]
    omega
theorem sortK_perm (ps : List Pic) (ns : List Int) : (sortK ps ns).Perm ns := List.mergeSort_perm _ _
theorem sortK_eq {ps : List Pic} {ns ms : List Int} (p : ns.Perm ms) : sortK ps ns = sortK ps ms :=
  sorted_one (g := gD ps) (fun a b e => e) ((sortK_perm ps ns).trans (p.trans (sortK_perm ps ms).symm)) (sortK_pair ps ns) (sortK_pair ps ms)
theorem IsParts.perm {h : Pic → Prop} {ps : List Pic} {P : Pic} {ks ls : List Int} (a : IsParts h ps P ks) (b : IsParts h ps P ls) : ks.Perm ls :=
  (List.perm_ext_iff_of_nodup a.nd b.nd).mpr fun k => by rw [a.mem, b.mem]
theorem depN_app {ps qs : List Pic} {n : Int} {P : Pic} (h : IsF ps n P) : depN (ps ++ qs) n = depN ps n := by rw [depN_of h, depN_of (h.app (qs := qs))]
theorem sortK_app {ps qs : List Pic} {ns : List Int} (h : ∀ n ∈ ns, ∃ P, IsF ps n P) : sortK (ps ++ qs) ns = sortK ps ns := by
  unfold sortK
  refine PySem.W.sort_congr fun a ha b hb => ?_
  obtain ⟨A, hA⟩ := h a ha
  obtain ⟨B, hB⟩ := h b hb
  rw [dataLe_kd, dataLe_kd]
  unfold ltK
  refine decide_eq_decide.mpr ?_
  simp only [gD, depN_app (qs := qs) hA, depN_app (qs := qs) hB]
/-- a store beside own new things, since H -/
structure NS (K : PySem.W.Frag) (bs ps : List Pic) (p : Addr) (A : FA) (D : Addr → Prop) (H H' : Hp) (D' : Addr → Prop) (qs : List Pic) : Prop where
  F : FacesAt (He.ga K "Faces") H' p A D' (ps ++ qs)
  B : Base bs (ps ++ qs)
  kp : Keep A.foot H H'
  d : ∀ b, D' b → D b ∨ H b = none
  live : ∀ b, H' b = none → H b = none
section
variable {K : PySem.W.Frag} {bs ps qs q2 : List Pic} {p : Addr} {A : FA} {D D' D2 : Addr → Prop} {H H' H2 : Hp} {a : Addr} {o : HO}
theorem NS.start (hF : FacesAt (He.ga K "Faces") H p A D ps) (hB : Base bs ps) : NS K bs ps p A D H H D [] := ⟨by rw [List.append_nil]; exact hF, by rw [List.append_nil]; exact hB, Keep.refl _ _, fun _ h => .inl h, fun _ h => h⟩
theorem NS.same (n : NS K bs ps p A D H H' D' qs) (s : Same H' H2) : NS K bs ps p A D H H2 D' qs := ⟨n.F.same s, n.B, n.kp.trans s.keep, n.d, fun b e => n.live b (s.free e)⟩
theorem NS.put (n : NS K bs ps p A D H H' D' qs) (nD : ¬ D' a) (nH : H a = none) : NS K bs ps p A D H (upd H' a o) D' qs :=
  ⟨n.F.keep fun b o hb e => (upd_ne (fun z => nD (by rw [← z]; exact hb))).trans e, n.B, n.kp.setNew nH, n.d, fun b e => n.live b (by
    by_cases c : b = a
    · rw [c, upd_same] at e; cases e
    · rw [upd_ne c] at e; exact e)⟩
theorem NS.after (n : NS K bs ps p A D H H' D' qs) (kp : Keep A.foot H' H2) (F2 : FacesAt (He.ga K "Faces") H2 p A D2 ((ps ++ qs) ++ q2)) (B2 : Base bs ((ps ++ qs) ++ q2)) (d2 : ∀ b, D2 b → D' b ∨ H' b = none) : NS K bs ps p A D H H2 D2 (qs ++ q2) := by
  rw [List.append_assoc] at F2 B2
  exact ⟨F2, B2, n.kp.trans kp, fun b hb => (d2 b hb).elim (n.d b) fun e => .inr (n.live b e), fun b e => n.live b (back_fresh F2 kp e)⟩
/-- one's own thing stays -/
theorem NS.own (n : NS K bs ps p A D H H' D' qs) (kp : Keep A.foot H' H2) (d2 : ∀ b, D2 b → D' b ∨ H' b = none) (nD : ¬ D' a) (e : H' a = some o) : H2 a = some o ∧ ¬ D2 a :=
  ⟨kp _ _ e (n.F.ofFoot nD), fun z => (d2 a z).elim nD fun w => by rw [w] at e; cases e⟩
theorem tabs_keep {T : List (Addr × Str)} (t : LamX.Tabs T H) (hF : FacesAt (He.ga K "Faces") H p A D ps) (kp : Keep A.foot H H') : LamX.Tabs T H' := by
  have nf : ∀ b o, H b = some o → (∃ t, o = .tbl t) ∨ (∃ φ, o = .ext φ) → ¬ A.foot b := fun b o e w f => by
    obtain ⟨ns, n1, _⟩ := hF.nodes
    obtain ⟨ss, s1, _⟩ := hF.sums
    obtain ⟨kvs, k1, _⟩ := hF.known
    obtain ⟨wh, w1, _⟩ := hF.whirl
    rcases f with rfl | rfl | rfl | rfl | rfl
    · rw [n1] at e; obtain rfl := Option.some.inj e; rcases w with ⟨_, w⟩ | ⟨_, w⟩ <;> cases w
    · rw [hF.depths] at e; obtain rfl := Option.some.inj e; rcases w with ⟨_, w⟩ | ⟨_, w⟩ <;> cases w
    · rw [s1] at e; obtain rfl := Option.some.inj e; rcases w with ⟨_, w⟩ | ⟨_, w⟩ <;> cases w
    · rw [k1] at e; obtain rfl := Option.some.inj e; rcases w with ⟨_, w⟩ | ⟨_, w⟩ <;> cases w
    · rw [w1] at e; obtain rfl := Option.some.inj e; rcases w with ⟨_, w⟩ | ⟨_, w⟩ <;> cases w
  intro q hq
  obtain ⟨es, h1, h2, h3⟩ := t q hq
  exact ⟨es, kp _ _ h1 (nf _ _ h1 (.inl ⟨_, rfl⟩)), h2, fun pos cv hc => by
    obtain ⟨c, e1, e2⟩ := h3 pos cv hc
    exact ⟨c, e1, kp _ _ e2 (nf _ _ e2 (.inr ⟨_, rfl⟩))⟩⟩
end
/-- all but the foot and the tables stay -/
def KN (F : Addr → Prop) (H H' : Hp) : Prop := ∀ b o, H b = some o → (∀ t, o ≠ .tbl t) → ¬ F b → H' b = some o
theorem KN.of {F : Addr → Prop} {H H' : Hp} (k : Keep F H H') : KN F H H' := fun b o e _ n => k b o e n
theorem KN.trans {F : Addr → Prop} {H H1 H2 : Hp} (a : KN F H H1) (b : KN F H1 H2) : KN F H H2 := fun c o e t n => b c o (a c o e t n) t n
theorem KN.ext {F : Addr → Prop} {H H' : Hp} (e : LamX.ExtN H H') : KN F H H' := fun b o h t _ => e b o h t
/-- what is had -/
def hadP (ps : List Pic) (hs : List Int) (R : Pic) : Prop := ∃ n ∈ hs, ∃ Y, IsF ps n Y ∧ Kin Y R
theorem hadP_inv (ps : List Pic) (hs : List Int) : TurnInv (hadP ps hs) := fun P Q k ⟨n, hn, Y, hY, e⟩ => ⟨n, hn, Y, hY, e.trans k⟩
theorem sql_keep {K : PySem.W.Frag} {F : Addr → Prop} {H H' : Hp} {a : Addr} {xs : List V} (k : Keep F H H') (n : ¬ F a) (h : SqL K H a xs) : SqL K H' a xs := by
  rcases h with (h | ⟨o, h⟩) | h
  · exact .inl (.inl (k _ _ h n))
  · exact .inl (.inr ⟨o, k _ _ h n⟩)
  · exact .inr h
theorem mem_add {ks : List Int} {k n : Int} : k ∈ (if n ∈ ks then ks else ks ++ [n]) ↔ k ∈ ks ∨ k = n := by
  split
  · rename_i h
    constructor
    · exact .inl
    · rintro (z | rfl)
      · exact z
      · exact h
  · simp
theorem len_add {ks : List Int} {n : Int} : (if n ∈ ks then ks else ks ++ [n]).length ≤ ks.length + 1 := by
  split <;> simp
def NewQ (H : Hp) (q : Addr) : Prop := ∀ o, H q = some o → ∃ t, o = .tbl t
theorem Going.len {h : Pic → Prop} {P : Pic} {ps Fs Ws : List Pic} {ks : List Int} (g : Going h P ps Fs Ws ks) : ks.length ≤ ps.length := by
  have e := nodup_sub (m := (List.range ps.length).map fun n : Nat => ((n : Nat) : Int)) g.nd fun k hk => by
    rw [g.keys] at hk
    obtain ⟨F, hF, rfl⟩ := List.mem_map.mp hk
    obtain ⟨t, ht, e⟩ := kindN_mem ps F
    exact List.mem_map.mpr ⟨kindN ps F, List.mem_range.mpr (by rw [e]; exact ix_lt (g.all F hF t ht.1 ht.2)), rfl⟩
  rw [List.length_map, List.length_range] at e
  exact e
theorem node_kids {ps : List Pic} {P : Pic} (d : P.depth ≠ 0) (hin : PartsIn ps P) : (nodeOf ps P).length = P.kids.length ∧ P.kids.length = 4 ∧ ∀ (i : Nat) (n : Int) (X : Pic), (nodeOf ps P)[i]? = some n → P.kids[i]? = some X → IsF ps n X := by
  cases P with
  | p c => exact absurd rfl d
  | q a b c e =>
    refine ⟨rfl, rfl, fun i n X h1 h2 => ?_⟩
    have ha : a ∈ ps := hin a (by simp [Pic.parts])
    have hb : b ∈ ps := hin b (by simp [Pic.parts])
    have hc : c ∈ ps := hin c (by simp [Pic.parts])
    have he : e ∈ ps := hin e (by simp [Pic.parts])
    match i, h1, h2 with
    | 0, h1, h2 => obtain rfl := Option.some.inj h1; obtain rfl := Option.some.inj h2; exact IsF.ix ha
    | 1, h1, h2 => obtain rfl := Option.some.inj h1; obtain rfl := Option.some.inj h2; exact IsF.ix hb
    | 2, h1, h2 => obtain rfl := Option.some.inj h1; obtain rfl := Option.some.inj h2; exact IsF.ix hc
    | 3, h1, h2 => obtain rfl := Option.some.inj h1; obtain rfl := Option.some.inj h2; exact IsF.ix he
    | i + 4, h1, h2 => simp [nodeOf] at h1
theorem snoc_of {α : Type} {l : List α} (h : l.length ≠ 0) : ∃ m a, l = m ++ [a] := by
  rcases List.eq_nil_or_concat l with z | ⟨L, b, z⟩
  · rw [z] at h; exact absurd rfl h
  · exact ⟨L, b, by simpa using z⟩
/-- faces and their pictures, side by side -/
def Facing (ps : List Pic) (ws : List Int) (Ws : List Pic) : Prop := ws.length = Ws.length ∧ ∀ (i : Nat) (n : Int) (W : Pic), ws[i]? = some n → Ws[i]? = some W → IsF ps n W
theorem Facing.app {ps qs : List Pic} {ws : List Int} {Ws : List Pic} (f : Facing ps ws Ws) : Facing (ps ++ qs) ws Ws := ⟨f.1, fun i n W a b => (f.2 i n W a b).app⟩
theorem Facing.add {ps : List Pic} {ws vs : List Int} {Ws Vs : List Pic} (f : Facing ps ws Ws) (g : Facing ps vs Vs) : Facing ps (ws ++ vs) (Ws ++ Vs) := ⟨by rw [List.length_append, List.length_append, f.1, g.1], fun i n W a b => by
  by_cases c : i < ws.length
  · rw [List.getElem?_append_left c] at a
    rw [List.getElem?_append_left (by rw [← f.1]; exact c)] at b
    exact f.2 i n W a b
  · rw [List.getElem?_append_right (by omega)] at a
    rw [List.getElem?_append_right (by have := f.1; omega), ← f.1] at b
    exact g.2 _ n W a b⟩
theorem Facing.pop {ps : List Pic} {ws : List Int} {Ws : List Pic} {r : Int} (f : Facing ps (ws ++ [r]) Ws) : ∃ Vs R, Ws = Vs ++ [R] ∧ IsF ps r R ∧ Facing ps ws Vs := by
  have l := f.1
  rw [List.length_append] at l
  have l1 : ([r] : List Int).length = 1 := rfl
  obtain ⟨Vs, R, rfl⟩ := snoc_of (l := Ws) (by omega)
  rw [List.length_append] at l
  have l2 : ([R] : List Pic).length = 1 := rfl
  refine ⟨Vs, R, rfl, f.2 ws.length r R (by simp) (by rw [show ws.length = Vs.length by omega]; simp), by omega, fun i n W a b => f.2 i n W ?_ ?_⟩
  · rw [List.getElem?_append_left (List.getElem?_eq_some_iff.mp a).1]; exact a
  · rw [List.getElem?_append_left (List.getElem?_eq_some_iff.mp b).1]; exact b
def noH : Pic → Prop := fun _ => False
theorem hadP_nil (ps : List Pic) : hadP ps [] = noH := by
  funext R
  exact propext ⟨fun ⟨n, hn, _⟩ => absurd hn (by simp), fun h => h.elim⟩
theorem noH_inv : TurnInv noH := fun _ _ _ h => h
/-- no more kinds than pictures that all are turned from -/
theorem Going.few {h : Pic → Prop} {P : Pic} {ps bs Fs Ws : List Pic} {ks : List Int} (g : Going h P ps Fs Ws ks) (hB : Base bs ps) : ks.length ≤ bs.length := by
  have e := nodup_sub (m := bs.map fun B => ((kindN ps B : Nat) : Int)) g.nd fun k hk => by
    rw [g.keys] at hk
    obtain ⟨F, hF, rfl⟩ := List.mem_map.mp hk
    have hm : F ∈ ps := by
      have := g.all F hF 0 (by decide) (by decide)
      rwa [turn_zero] at this
    obtain ⟨B, hBm, t, ht, e⟩ := hB F hm
    exact List.mem_map.mpr ⟨B, hBm, by rw [e, kindN_turn ps ht.1 ht.2]⟩
  rw [List.length_map] at e
  exact e
/-- a row's pair -/
def pairV (H : Hp) (v : V) : Int × Int := match v with
  | .ref t => (match H t with
    | some (.tup [.int i, .int j]) => (i, j)
    | _ => (0, 0))
  | _ => (0, 0)
theorem pairV_of {H : Hp} {t : Addr} {i j : Int} (e : H t = some (.tup [.int i, .int j])) : pairV H (.ref t) = (i, j) := by
  unfold pairV
  simp only [e]
/-- rows sorted by pairs give the numbers in the order of kinds -/
theorem rows_sorted {H : Hp} {ps : List Pic} {ys ks : List Int} {vs zs : List V} (hl : vs.length = ys.length) (hv : ∀ (j : Nat) (v : V) (n : Int), vs[j]? = some v → ys[j]? = some n → ∃ t, v = .ref t ∧ H t = some (.tup [.int (0 - depN ps n), .int n])) (hp : ys.Perm ks) (hs : SrtO.Srtd (ltP (pairV H)) zs) (hz : zs.Perm vs) : zs.map (fun z => (pairV H z).2) = sortK ps ks := by
  have one : ∀ v ∈ vs, ∃ n, pairV H v = (0 - depN ps n, n) := fun v hm => by
    obtain ⟨j, hj⟩ := List.mem_iff_getElem?.mp hm
    have jl := (List.getElem?_eq_some_iff.mp hj).1
    obtain ⟨t, rfl, e⟩ := hv j v _ hj (List.getElem?_eq_getElem (by omega))
    exact ⟨_, pairV_of e⟩
  have ev : vs.map (fun z => (pairV H z).2) = ys := by
    apply List.ext_getElem?
    intro j
    rw [List.getElem?_map]
    cases e : vs[j]? with
    | none =>
      have : ys[j]? = none := List.getElem?_eq_none (by have := List.getElem?_eq_none_iff.mp e; omega)
      rw [this]; rfl
    | some v =>
      have jl := (List.getElem?_eq_some_iff.mp e).1
      have ey : ys[j]? = some (ys[j]'(by omega)) := List.getElem?_eq_getElem (by omega)
      obtain ⟨t, rfl, h⟩ := hv j v _ e ey
      rw [ey]
      show some (pairV H (.ref t)).2 = _
      rw [pairV_of h]
  refine sorted_one (g := gD ps) (fun a b e => e) ((((hz.map _).trans (by rw [ev])).trans hp).trans (sortK_perm ps ks).symm) ?_ (sortK_pair ps ks)
  rw [List.pairwise_map]
  refine hs.imp_of_mem fun {x y} hx hy h => ?_
  obtain ⟨n, en⟩ := one x (hz.mem_iff.mp hx)
  obtain ⟨m, em⟩ := one y (hz.mem_iff.mp hy)
  have h2 := SrtO.lexB_no.mp h
  unfold ltK
  rw [decide_eq_true_eq]
  rw [en, em] at h2 ⊢
  simp only [gD] at h2 ⊢
  omega
theorem sql_of {K : PySem.W.Frag} {F : Addr → Prop} {H : Hp} {a : Addr} {xs : List V} (h : SqL K H a xs) (f : ∀ b, F b → H b = none) : ∀ H', KN F H H' → SqL K H' a xs := fun H' k => by
  rcases h with (h | ⟨o, h⟩) | h
  · exact .inl (.inl (k _ _ h (fun t z => by cases z) fun z => by rw [f _ z] at h; cases h))
  · exact .inl (.inr ⟨o, k _ _ h (fun t z => by cases z) fun z => by rw [f _ z] at h; cases h⟩)
  · exact .inr h
theorem tabs_put {T : List (Addr × Str)} {H : Hp} {a : Addr} {xs ys : List V} (t : LamX.Tabs T H) (e : H a = some (.lst xs)) : LamX.Tabs T (upd H a (.lst ys)) := by
  intro q hq
  obtain ⟨es, h1, h2, h3⟩ := t q hq
  exact ⟨es, (upd_ne (ne_of h1 e (by intro z; cases z))).trans h1, h2, fun pos cv hc => by
    obtain ⟨c, e1, e2⟩ := h3 pos cv hc
    exact ⟨c, e1, (upd_ne (ne_of e2 e (by intro z; cases z))).trans e2⟩⟩
theorem KN.setN {F : Addr → Prop} {H H' : Hp} {a : Addr} {o : HO} (k : KN F H H') (n : NewQ H a) : KN F H (upd H' a o) := fun b u e t nf => by
  rw [upd_ne (fun z => by
    rw [z] at e
    obtain ⟨x, rfl⟩ := n u e
    exact t x rfl)]
  exact k b u e t nf
theorem KN.same {F : Addr → Prop} {H H' H2 : Hp} (k : KN F H H') (s : Same H' H2) : KN F H H2 := fun b u e t nf => s _ _ (k b u e t nf)
theorem NewQ.ne {H : Hp} {q b : Addr} {o : HO} (n : NewQ H q) (e : H b = some o) (t : ∀ x, o ≠ .tbl x) : b ≠ q := fun z => by
  rw [z] at e
  obtain ⟨x, rfl⟩ := n o e
  exact t x rfl
theorem NewQ.back {F : Addr → Prop} {H H' : Hp} {q : Addr} (n : NewQ H' q) (k : KN F H H') (nf : ¬ F q) : NewQ H q := fun o e => by
  refine Classical.byContradiction fun c => ?_
  obtain ⟨t, rfl⟩ := n o (k q o e (fun t z => c ⟨t, z⟩) nf)
  exact c ⟨t, rfl⟩
theorem inV_ints (n : Int) (hk : List Int) : inV (.int n) (hk.map V.int) = decide (n ∈ hk) := by
  induction hk with
  | nil => rfl
  | cons k hk ih =>
    unfold inV at ih ⊢
    rw [List.map_cons, List.any_cons, ih]
    by_cases e : n = k
    · subst e; simp [eqV]
    · have e2 : ¬ k = n := fun z => e z.symm
      simp [eqV, e, e2]
theorem flat_ints (hk : List Int) : (hk.map V.int).all flatV = true := by
  rw [List.all_map, List.all_eq_true]
  exact fun _ _ => rfl
theorem z_notinL {K : PySem.W.Frag} {H : Hp} {Q : VK} {a : Addr} {n : Int} {hk : List Int} (h : SqL K H a (hk.map V.int)) (k : Q (.bl (!decide (n ∈ hk))) H) : rIn K true (.int n) (.ref a) H Q :=
  ⟨a, _, rfl, .inl h, rfl, flat_ints hk, by rw [inV_ints]; exact k⟩
abbrev nFaces_kind : List Str := ["self", "face", "turning"]
abbrev pFaces_kind : List Str := ["self", "face"]
theorem scFaces_kind : FnScope nFaces_kind pFaces_kind (defScope sFaces_kind) := ⟨rfl, rfl, rfl, by decide +kernel, rfl, by decide +kernel, by decide +kernel⟩
theorem ok_Faces_kind {P : Program} {w : World} {K : PySem.W.Frag} {mg : Str → Option Value} {base : Heap} (T : Tb w K mg base) : Fk P w K mg base 16 (He.ma K (He.ga K "Faces") "kind") pFaces_kind (spKind (He.ga K "Faces") (He.ga K "NoFace")) := by
  have GFaces_need := ok_Faces_need (P := P) (w := w) (base := base) T
  have GFaces_whirled := ok_Faces_whirled (P := P) (w := w) (base := base) T 13
  refine Fk.mk' T.fFaces_kind scFaces_kind (fun _ _ _ _ _ _ us hl => match us, hl with | [_, _], _ => rfl) (by
  intro vs H Q E h
  repeat (first | (obtain ⟨h1, _⟩ := h; subst h1; rfl) | (obtain ⟨_, h⟩ := h))) (fun cdv A outer s H vs Q E hr h => ?_)
  have hu := hu_of hr
  have hu64 := hr.units
  refine ⟨_, (pss_cons (ps_expr (q_meth (pv 0) T.cFaces T.mFaces_need GFaces_need (hr.mono (by omega)) passX (pa_cons (pv 1) pa_nil)))
  (pss_one (ps_ret (pe_callB (k_min K rfl) (by rfl) T.umin (by decide +kernel) (pa_cons (pe_lc (own := [("turning", 2)]) (g := gName 2) rfl scFaces_kind.nd (pi_range1 (by rfl) T.urange (pa_cons pe_int pa_nil)) (blkOk_by (own := [("turning", 2)]) (N := nFaces_kind) (sc := defScope sFaces_kind) (by decide +kernel)) (fun _ _ _ _ _ => pg_name (i := 2) scFaces_kind.nd rfl (Or.inl rfl)) (fun _ _ _ _ _ => pts_nil) (fun _ _ _ _ _ => (q_meth (pv 0) T.cFaces T.mFaces_whirled GFaces_whirled (hr.mono (by omega)) passL (pa_cons (pv 1) (pa_cons (pv 2) pa_nil))))) pa_nil))))), ?_⟩
  try dsimp only [cxOf]
  obtain ⟨p, A, D, ps, bs, f, rfl, hF, hB, hbs, e, q⟩ := h
  obtain ⟨dx, ob⟩ := hF.ob
  walk_at "z"
  refine z_methR ob noFaces_need ?_
  walk_at "z"
  refine ⟨p, A, D, ps, f, rfl, hF, fun c => ?_, e⟩
  obtain ⟨P, hP⟩ := IsF.ex c.1 c.2
  have hd12 := ok_depth (hF.inv.ok P hP.mem)
  walk_at "z"
  refine ⟨_, rfl, by decide, by decide, fun L hL => ?_⟩
  have nL : ¬ D L := hF.nd hL
  refine lc_range (lo := 0) (n := 8) (fun i H' => ∃ qs D', Keep A.foot H H' ∧ FacesAt (He.ga K "Faces") H' p A D' (ps ++ qs) ∧ Base bs (ps ++ qs) ∧ (∀ b, D b → D' b) ∧ (∀ b, D' b → D b ∨ H b = none) ∧ ¬ D' L ∧
      H' L = some (.lst (((List.range i).map fun t : Nat => ((ix (ps ++ qs) (P.turn (t : Nat)) : Nat) : Int)).map V.int)) ∧ ∀ t : Nat, t < i → P.turn (t : Nat) ∈ ps ++ qs)
    ⟨[], D, (Keep.refl _ _).setNew hL, by rw [List.append_nil]; exact hF.same (Same.new hL), by rw [List.append_nil]; exact hB, fun _ h => h, fun b h => .inl h, nL, upd_same, fun t ht => by omega⟩ ?_ ?_
  · rintro i H' hi ⟨qs, D', kp, hF2, hB2, d1, d2, nL2, fL, hm⟩
    obtain ⟨dx2, ob2⟩ := hF2.ob
    have e0 : (0 : Int) + (i : Nat) = (i : Nat) := Int.zero_add _
    walk_at "zw"
    walk_at "z"
    refine ⟨rfl, ?_⟩
    walk_at "z"
    rw [e0]
    refine z_methR ob2 noFaces_whirled ?_
    walk_at "z"
    refine ⟨p, A, D', ps ++ qs, bs, f, (i : Nat), P, rfl, hF2, hP.app, by omega, by omega, hB2, hbs, fun qs2 hB3 H3 D3 kp3 hF3 e1 e2 hm3 => ?_⟩
    have f3 := kp3 _ _ fL (hF2.ofFoot nL2)
    have nL3 : ¬ D3 L := fresh_not fL nL2 e2
    rw [List.append_assoc] at hF3 hB3 hm3 ⊢
    refine ⟨_, f3, szlt (by simp; omega), qs ++ qs2, D3, (kp.trans kp3).setNew hL, hF3.keep fun b o hb e => by rw [upd_ne (fun z => nL3 (by rw [← z]; exact hb))]; exact e, hB3, fun b hb => e1 b (d1 b hb), fun b hb => ?_, nL3, ?_, ?_⟩
    · rcases e2 b hb with z | z
      · exact d2 b z
      · exact .inr (back_fresh hF2 kp z)
    · rw [upd_same, List.range_succ, List.map_append, List.map_append]
      congr 2
      congr 1
      rw [List.map_map, List.map_map]
      apply List.map_congr_left
      intro t ht
      simp only [Function.comp]
      rw [← List.append_assoc, ix_app (hm t (by simpa using ht))]
    · intro t ht
      by_cases e9 : t = i
      · subst e9; exact hm3
      · rw [← List.append_assoc]; exact List.mem_append_left _ (hm t (by omega))
  · rintro H' ⟨qs, D', kp, hF2, hB2, d1, d2, nL2, fL, hm⟩
    walk_at "z"
    have all : AllT (ps ++ qs) P := fun t t0 t8 => by
      have := hm t.toNat (by omega)
      rw [Int.toNat_of_nonneg t0] at this
      exact this
    refine z_min (SqL.of fL) (by simp) fun m hm1 hm2 => ?_
    have em : m = ((kindN (ps ++ qs) P : Nat) : Int) := by
      simp only [List.mem_map, List.mem_range] at hm1
      obtain ⟨t, ht, rfl⟩ := hm1
      have h1 := kindN_le (ps ++ qs) P (t := (t : Nat)) (by omega) (by omega)
      obtain ⟨u, hu, e⟩ := kindN_mem (ps ++ qs) P
      have h2 := hm2 ((ix (ps ++ qs) (P.turn u) : Nat) : Int) (by
        simp only [List.mem_map, List.mem_range]
        exact ⟨u.toNat, by omega, by rw [Int.toNat_of_nonneg hu.1]⟩)
      omega
    rw [em]
    exact q P hP qs hB2 H' D' kp hF2 d1 d2 all
def quartersI (ps : List Pic) (f : Int) (P : Pic) : List Int := if P.depth = 0 then [f, f, f, f] else nodeOf ps P
def spQuarters (C N : Addr) : Sp := fun vs H Q E => ∃ p A D ps, ∃ f : Int, vs = [.ref p, .int f] ∧ FacesAt C H p A D ps ∧ (∀ P, IsF ps f P → ∀ H' a, Same H H' → H' a = some (.tup ((quartersI ps f P).map V.int)) → Q (.ref a) H') ∧ (¬ (0 ≤ f ∧ f < ps.length) → E (.ref N) none H)
abbrev nFaces_quarters : List Str := ["self", "face"]
abbrev pFaces_quarters : List Str := ["self", "face"]
theorem scFaces_quarters : FnScope nFaces_quarters pFaces_quarters (defScope sFaces_quarters) := ⟨rfl, rfl, rfl, by decide +kernel, rfl, by decide +kernel, by decide +kernel⟩
theorem ok_Faces_quarters {P : Program} {w : World} {K : PySem.W.Frag} {mg : Str → Option Value} {base : Heap} (T : Tb w K mg base) : Fk P w K mg base 2 (He.ma K (He.ga K "Faces") "quarters") pFaces_quarters (spQuarters (He.ga K "Faces") (He.ga K "NoFace")) := by
  have GFaces_need := ok_Faces_need (P := P) (w := w) (base := base) T
  refine Fk.mk' T.fFaces_quarters scFaces_quarters (fun _ _ _ _ _ _ us hl => match us, hl with | [_, _], _ => rfl) (by
  intro vs H Q E h
  repeat (first | (obtain ⟨h1, _⟩ := h; subst h1; rfl) | (obtain ⟨_, h⟩ := h))) (fun cdv A outer s H vs Q E hr h => ?_)
  have hu := hu_of hr
  have hu64 := hr.units
  refine ⟨_, (pss_cons (ps_expr (q_meth (pv 0) T.cFaces T.mFaces_need GFaces_need (hr.mono (by omega)) passX (pa_cons (pv 1) pa_nil)))
  (pss_cons (ps_if (pt_cmpR (k_eq K hu64) (k_ix K (k_fld K (pv 0) rfl) (pv 1) (fun _ _ => rfl)) pe_int (nomark _)) (pss_one (ps_ret (pe_tup (pa_cons (pv 1) (pa_cons (pv 1) (pa_cons (pv 1) (pa_cons (pv 1) pa_nil))))))) pss_nil)
  (pss_one (ps_ret (k_ix K (k_fld K (pv 0) rfl) (pv 1) (fun _ _ => rfl)))))), ?_⟩
  try dsimp only [cxOf]
  obtain ⟨p, A, D, ps, f, rfl, hF, q, e⟩ := h
  obtain ⟨dx, ob⟩ := hF.ob
  obtain ⟨ns, hn, n2, n3⟩ := hF.nodes
  walk_at "z"
  refine z_methR ob noFaces_need ?_
  walk_at "z"
  refine ⟨p, A, D, ps, f, rfl, hF, fun c => ?_, e⟩
  obtain ⟨P, hP⟩ := IsF.ex c.1 c.2
  walk_at "z"
  refine z_fldR ob T.cFaces T.aFaces_depths lkFaces_depths ?_
  walk_at "z"
  refine z_ixL (SqL.of hF.depths) (FacesAt.depthAt hP) ?_
  walk_at "z"
  have qq := q P hP
  unfold quartersI at qq
  refine z_ite (fun c => ?_) (fun c => ?_)
  · rw [if_pos (by omega)] at qq
    walk_at "z"
    refine ⟨sz1000 (by simp), fun a ha => ?_⟩
    exact qq _ _ (Same.new ha) upd_same
  · rw [if_neg (by omega)] at qq
    walk_at "z"
    refine z_fldR ob T.cFaces T.aFaces_nodes lkFaces_nodes ?_
    walk_at "z"
    have hlt : f.toNat < ns.length := by omega
    obtain ⟨da, ha⟩ := n3 f.toNat _ P (List.getElem?_eq_getElem hlt) hP.2
    refine z_ixL (SqL.of hn) (atI_of (n := f.toNat) (v := .ref (ns[f.toNat])) (by rw [List.getElem?_map, List.getElem?_eq_getElem hlt]; rfl) (by omega)) ?_
    exact qq _ _ (Same.refl H) ha
abbrev nsorted_kinds : List Str := ["faces", "found"]
abbrev psorted_kinds : List Str := ["faces", "found"]
theorem scsorted_kinds : FnScope nsorted_kinds psorted_kinds (defScope ssorted_kinds) := ⟨rfl, rfl, rfl, by decide +kernel, rfl, by decide +kernel, by decide +kernel⟩
theorem ok_sorted_kinds {P : Program} {w : World} {K : PySem.W.Frag} {mg : Str → Option Value} {base : Heap} (T : Tb w K mg base) : Fk P w K mg base 7 (He.ga K "sorted_kinds") psorted_kinds (spSortK K) := by
  have GFaces_depth := ok_Faces_depth (P := P) (w := w) (base := base) T
  refine Fk.mkC (at_ := ("sorted_kinds", none)) T.fsorted_kinds scsorted_kinds (fun _ _ _ _ _ _ us hl => match us, hl with | [_, _], _ => rfl) (by
  intro vs H Q E h
  repeat (first | (obtain ⟨h1, _⟩ := h; subst h1; rfl) | (obtain ⟨_, h⟩ := h))) (fun cdv hcd A outer s H vs Q E hr h => ?_)
  have hu := hu_of hr
  have hu64 := hr.units
  refine ⟨_, (pss_one (ps_ret (pe_sortLam (T := tT K) (N := ["kind", "faces"]) (fr := ["faces"]) (js := [0]) (k := 2) rfl T.usorted (pa_cons (pv 1) pa_nil) (hr.mono (by omega)) T.b0 hcd (by first | exact List.mem_singleton.mpr rfl | simp [tT]) (fun p hp hP => by rw [List.mem_singleton.mp hp]; rfl) (NdefX.nscope_by (by decide +kernel)) (by rfl) rfl rfl (fun _ _ _ _ _ _ => rfl) (fun lA lo ls lH lf lq lcl lc hr => (pe_tup (pa_cons (pe_op op_sub pe_int (q_meth (pv 1) T.cFaces T.mFaces_depth GFaces_depth (hr.mono (by omega)) passN (pa_cons (pv 0) pa_nil))) (pa_cons (pv 0) pa_nil))))))), ?_⟩
  try dsimp only [cxOf]
  obtain ⟨p, A, D, ps, l, ns, rfl, hF, hl, hn, hT, q⟩ := h
  walk_at "z"
  refine z_sortLam ?_
  walk_at "z"
  refine ⟨l, ns, gD ps, rfl, hT, fun H2 eN T2 => ⟨sql_extN hl eN, fun n hm H3 s3 => ?_, fun H3 p3 s3 n3 => ?_⟩⟩
  · have hF3 := (FacesAt.extN hF eN).same s3
    obtain ⟨P1, hP1⟩ := hn n hm
    obtain ⟨dx, ob⟩ := hF3.ob
    show tTup _ [some (.int n), some (.ref p)] H3 _
    walk_at "z"
    refine z_methR ob noFaces_depth ?_
    walk_at "z"
    refine ⟨p, A, _, ps, n, rfl, hF3, fun P2 hP2 => ?_, fun no => absurd ⟨hP1.1, hP1.lt⟩ no⟩
    walk_at "z"
    walk_at "zt"
    rename_i t nt H4 s4 f4
    exact ⟨s4, t, rfl, by rw [f4]; show _ = some (HO.tup [V.int (0 - depN ps n), V.int n]); rw [depN_of hP2]⟩
  · have e3 : LamX.ExtN H (upd H3 p3 (.lst ((sortK ps ns).map V.int))) := fun b o e nt => by
      have h3 := s3 _ _ (eN b o e nt)
      rw [upd_ne (ne_of_none h3 n3)]; exact h3
    refine q _ p3 e3 (T2.ext fun b o e => ?_) (fun o e => ?_) upd_same
    · have h3 := s3 _ _ e
      rw [upd_ne (ne_of_none h3 n3)]; exact h3
    · refine Classical.byContradiction fun c => ?_
      have h3 := s3 _ _ (eN p3 o e fun t z => c ⟨t, z⟩)
      rw [n3] at h3; cases h3
def spNeeded (K : PySem.W.Frag) : Sp := fun vs H Q _ => ∃ p A D ps bs f l hs P, vs = [.ref p, .int f, .ref l] ∧ FacesAt (He.ga K "Faces") H p A D ps ∧ Base bs ps ∧ bs.length ≤ 9000 ∧ IsF ps f P ∧ H l = some (.lst (hs.map V.int)) ∧ ¬ A.foot l ∧ hs.length ≤ 100 ∧ (∀ n ∈ hs, ∃ Y, IsF ps n Y) ∧ LamX.Tabs (tT K) H ∧
  ∀ H' D' qs ks q, FacesAt (He.ga K "Faces") H' p A D' (ps ++ qs) → Base bs (ps ++ qs) → KN A.foot H H' → (∀ b, D' b → D b ∨ H b = none) → LamX.Tabs (tT K) H' → IsParts (hadP ps hs) (ps ++ qs) P ks → NewQ H q → ¬ D' q → H' q = some (.lst ((sortK (ps ++ qs) ks).map V.int)) → Q (.ref q) H'
abbrev nneeded : List Str := ["faces", "face", "have", "had", "other", "found", "waiting", "kind", "part"]
abbrev pneeded : List Str := ["faces", "face", "have"]
theorem scneeded : FnScope nneeded pneeded (defScope sneeded) := ⟨rfl, rfl, rfl, by decide +kernel, rfl, by decide +kernel, by decide +kernel⟩
theorem ok_needed {P : Program} {w : World} {K : PySem.W.Frag} {mg : Str → Option Value} {base : Heap} (T : Tb w K mg base) : Fk P w K mg base 17 (He.ga K "needed") pneeded (spNeeded K) := by
  have Gsorted_kinds := ok_sorted_kinds (P := P) (w := w) (base := base) T
  have GFaces_kind := ok_Faces_kind (P := P) (w := w) (base := base) T
  have GFaces_quarters := ok_Faces_quarters (P := P) (w := w) (base := base) T
  have GFaces_depth := ok_Faces_depth (P := P) (w := w) (base := base) T
  refine Fk.mk' T.fneeded scneeded (fun _ _ _ _ _ _ us hl => match us, hl with | [_, _, _], _ => rfl) (by
  intro vs H Q E h
  repeat (first | (obtain ⟨h1, _⟩ := h; subst h1; rfl) | (obtain ⟨_, h⟩ := h))) (fun cdv A outer s H vs Q E hr h => ?_)
  have hu := hu_of hr
  have hu64 := hr.units
  refine ⟨_, (pss_cons (ps_set (i := 3) scneeded.nd rfl (Or.inl rfl) pe_dnewK)
  (pss_cons (ps_for (passes_of rfl) rfl (k_pil K (pv 2)) (pg_name (i := 4) scneeded.nd rfl (Or.inl rfl)) (pss_one (ps_dput hu (pv 3) (q_meth (pv 0) T.cFaces T.mFaces_kind GFaces_kind (hr.mono (by omega)) passX (pa_cons (pv 4) pa_nil)) pe_bl rfl)))
  (pss_cons (ps_set (i := 5) scneeded.nd rfl (Or.inl rfl) pe_dnewK)
  (pss_cons (ps_set (i := 6) scneeded.nd rfl (Or.inl rfl) (pe_lst (pa_cons (pv 1) pa_nil)))
  (pss_cons (ps_while (passes_of rfl) (pt_cmpR (k_neNilK K hu) (pv 6) (pe_lst pa_nil) (nomark _)) (pss_cons (ps_set (i := 7) scneeded.nd rfl (Or.inl rfl) (q_meth (pv 0) T.cFaces T.mFaces_kind GFaces_kind (hr.mono (by omega)) passX (pa_cons (k_bm0 K PySem.F.plainAttrs_list PySem.F.slot_list_pop PySem.F.type_list_pop mt_pop (pv 6)) pa_nil)))
  (pss_one (ps_if (PW.pt (pw_and (pt_cmpR op_gt (q_meth (pv 0) T.cFaces T.mFaces_depth GFaces_depth (hr.mono (by omega)) passX (pa_cons (pv 7) pa_nil)) pe_int (nomark _)) (pw_and (pt_cmp (pc_dnotin hu (pv 7) (pv 3))) (pw_and1 (pt_cmp (pc_dnotin hu (pv 7) (pv 5))))))) (pss_cons (ps_dput hu (pv 5) (pv 7) pe_bl rfl)
  (pss_one (ps_for (passes_of rfl) rfl (k_pit K (q_meth (pv 0) T.cFaces T.mFaces_quarters GFaces_quarters (hr.mono (by omega)) passX (pa_cons (pv 7) pa_nil))) (pg_name (i := 8) scneeded.nd rfl (Or.inl rfl)) (pss_one (ps_expr (k_bm K PySem.F.plainAttrs_list PySem.F.slot_list_append PySem.F.type_list_append mt_append (pv 6) (pa_cons (pv 8) pa_nil))))))) pss_nil))))
  (pss_one (ps_ret (q_call Gsorted_kinds (hr.mono (by omega)) T.gsorted_kinds passX (pa_cons (pv 0) (pa_cons (pe_callTy (call_listD rfl) (by rfl) T.ulist (by decide +kernel) (pa_cons (pv 5) pa_nil)) pa_nil)))))))))), ?_⟩
  try dsimp only [cxOf]
  obtain ⟨p, A, D, ps, bs, f, l, hs, P, rfl, hF, hB, hbs, hP, hl, nl, hhs, hY, hT, q⟩ := h
  walk_at "z"
  walk_at "zn"
  rename_i had nHad H1 s1 fHad
  have n0 := (NS.start hF hB).same s1
  have k0 : KeysAt H1 had [] := ⟨[], fHad, rfl⟩
  have nD0 : ¬ D had := hF.nd nHad
  walk_at "z"
  refine ⟨l, rfl, ⟨_, SqL.of (s1 _ _ hl)⟩, ?_⟩
  refine for_list (K := K) (a := l) (xs := hs.map V.int) (fun i σ H' => ∃ qs D' hk y4, σ = [some (.ref p), some (.int f), some (.ref l), some (.ref had), y4, none, none, none, none] ∧ NS K bs ps p A D H H' D' qs ∧ H' l = some (.lst (hs.map V.int)) ∧ KeysAt H' had hk ∧ ¬ D' had ∧ hk.length ≤ i ∧ (∀ k : Int, k ∈ hk ↔ ∃ n ∈ hs.take i, ∃ Y, IsF ps n Y ∧ k = ((kindN (ps ++ qs) Y : Nat) : Int)) ∧ ∀ n ∈ hs.take i, ∀ Y, IsF ps n Y → AllT (ps ++ qs) Y)
    ⟨[], D, [], _, rfl, n0, s1 _ _ hl, k0, nD0, Nat.le_refl _, fun k => by simp, fun n hn => by simp at hn⟩ (fun i σ H' _ ⟨_, _, _, _, _, _, h, _⟩ => SqL.of h) ?_ ?_
  · rintro i v σ H2 hi ⟨qs, D2, hk, y4, rfl, n2, hl2, k2, nd2, hkl, mem2, all2⟩
    obtain ⟨n, hn, rfl⟩ : ∃ n, hs[i]? = some n ∧ v = .int n := by
      rw [List.getElem?_map] at hi
      cases e : hs[i]? with
      | none => rw [e] at hi; cases hi
      | some n => rw [e] at hi; exact ⟨n, rfl, (Option.some.inj hi).symm⟩
    have hil : i < hs.length := (List.getElem?_eq_some_iff.mp hn).1
    obtain ⟨Y1, hY1⟩ := hY n (List.mem_of_getElem? hn)
    have hf : IsF (ps ++ qs) n Y1 := hY1.app
    obtain ⟨dx, ob⟩ := n2.F.ob
    walk_at "z"
    refine z_methR ob noFaces_kind ?_
    walk_at "z"
    refine ⟨p, A, D2, _, bs, n, rfl, n2.F, n2.B, by omega, fun no => absurd ⟨hf.1, hf.lt⟩ no, fun Y2 hY2 q2 B3 H3 D3 kp3 F3 u3 d3 aT => ?_⟩
    obtain rfl := hY2.inj hf
    have n3 := n2.after kp3 F3 B3 d3
    have k3 : KeysAt H3 had hk := k2.keep fun o e => (n2.own kp3 d3 nd2 e).1
    have nd3 : ¬ D3 had := by
      obtain ⟨kvs, e⟩ := k2.some
      exact (n2.own kp3 d3 nd2 e).2
    have hl3 := kp3 _ _ hl2 nl
    rw [List.append_assoc] at aT ⊢
    obtain ⟨H4, o4, dp, rfl, k4⟩ := k3.put ((kindN (ps ++ (qs ++ q2)) Y2 : Nat) : Int) (.bl true) (by show hk.length < _; exact szlt (by omega))
    refine z_dputR dp ?_
    walk_at "z"
    have ll : l ≠ had := ne_of_none hl nHad
    refine ⟨qs ++ q2, D3, _, _, rfl, n3.put nd3 nHad, (upd_ne ll).trans hl3, k4, nd3, Nat.le_trans len_add (by omega), fun k => ?_, fun m hm Y hYm => ?_⟩
    · rw [mem_add, mem2, List.take_add_one, hn]
      constructor
      · rintro (⟨m, hm, Y, hYm, e⟩ | rfl)
        · exact ⟨m, List.mem_append_left _ hm, Y, hYm, by rw [e, ← List.append_assoc, kindN_app (all2 m hm Y hYm)]⟩
        · exact ⟨n, by simp, Y2, hY1, rfl⟩
      · rintro ⟨m, hm, Y, hYm, e⟩
        rcases List.mem_append.mp hm with z | z
        · exact .inl ⟨m, z, Y, hYm, by rw [e, ← List.append_assoc, kindN_app (all2 m z Y hYm)]⟩
        · have z : m = n := by simpa using z
          subst z
          obtain rfl := hYm.inj hY1
          exact .inr e
    · rw [List.take_add_one, hn] at hm
      rcases List.mem_append.mp hm with z | z
      · rw [← List.append_assoc]; exact (all2 m z Y hYm).app
      · have z : m = n := by simpa using z
        subst z
        obtain rfl := hYm.inj hY1
        exact aT
  · rintro σ H2 ⟨qs, D2, hk, y4, rfl, n2, hl2, k2, nd2, hkl, mem2, all2⟩
    rw [List.length_map, List.take_of_length_le (Nat.le_refl _)] at mem2 all2
    rw [List.length_map] at hkl
    walk_at "z"
    walk_at "zn"
    rename_i fd nfd H3 s3 ffd
    have n3 := n2.same s3
    have k3 := k2.keep fun o e => s3 _ _ e
    have kf3 : KeysAt H3 fd [] := ⟨[], ffd, rfl⟩
    have ndf3 : ¬ D2 fd := n2.F.nd nfd
    walk_at "z"
    walk_at "zt"
    rename_i wl nwl H4 s4 fwl
    walk_at "z"
    have n4 := n3.same s4
    have nHf : H fd = none := n2.live fd nfd
    have nHw : H wl = none := n3.live wl nwl
    have dhf : had ≠ fd := by obtain ⟨kvs, e⟩ := k2.some; exact ne_of_none e nfd
    have dhw : had ≠ wl := by obtain ⟨kvs, e⟩ := k3.some; exact ne_of_none e nwl
    have dfw : fd ≠ wl := ne_of_none ffd nwl
    have hi := hadP_inv ps hs
    have hmem : ∀ {q2 : List Pic} {R : Pic}, AllT (ps ++ (qs ++ q2)) R → (((kindN (ps ++ (qs ++ q2)) R : Nat) : Int) ∈ hk ↔ hadP ps hs R) := fun {q2 R} aR => by
      rw [mem2]
      constructor
      · rintro ⟨n, hn, Y, hY, e⟩
        have aY := all2 n hn Y hY
        rw [← List.append_assoc] at e aR
        rw [← kindN_app (qs := q2) aY] at e
        exact ⟨n, hn, Y, hY, kindN_eq aY.app aR (by omega)⟩
      · rintro ⟨n, hn, Y, hY, k⟩
        have aY := all2 n hn Y hY
        exact ⟨n, hn, Y, hY, by rw [← List.append_assoc, ← kindN_app (qs := q2) aY, k.num]⟩
    refine z_while (fun m σ H' => ∃ q2 D' Fs Ws ks ws y7 y8, σ = [some (.ref p), some (.int f), some (.ref l), some (.ref had), y4, some (.ref fd), some (.ref wl), y7, y8] ∧ NS K bs ps p A D H H' D' (qs ++ q2) ∧ KeysAt H' had hk ∧ ¬ D' had ∧ KeysAt H' fd ks ∧ ¬ D' fd ∧ H' wl = some (.lst (ws.map V.int)) ∧ ¬ D' wl ∧ Going (hadP ps hs) P (ps ++ (qs ++ q2)) Fs Ws ks ∧ Facing (ps ++ (qs ++ q2)) ws Ws ∧ ws.length ≤ 1 + 4 * ks.length ∧ m = 5 * (80000 - ks.length) + ws.length) (5 * 80000 + 1)
      ⟨[], D2, [], [P], [], [f], _, _, rfl, by rw [List.append_nil]; exact n4, k3.keep (fun o e => s4 _ _ e), nd2, kf3.keep (fun o e => s4 _ _ e), ndf3, fwl, n3.F.nd nwl, Going.start, ⟨rfl, fun i n W e1 e2 => ?_⟩, by simp, rfl⟩ ?_
    · have hi0 : i = 0 := by have := (List.getElem?_eq_some_iff.mp e1).1; simpa using this
      subst hi0
      obtain rfl := Option.some.inj e1
      obtain rfl := Option.some.inj e2
      rw [List.append_nil]; exact hP.app
    rintro m σ H5 ⟨q2, D5, Fs, Ws, ks, ws, y7, y8, rfl, n5, k5, nd5, kf5, ndf5, fw5, ndw5, go, fa, wmax, rfl⟩
    have plen : (ps ++ (qs ++ q2)).length ≤ 72000 := by have := n5.B.len n5.F.inv.nd; omega
    have klen := go.len
    walk_at "z"
    walk_at "zt"
    rename_i pN npN H6 s6 fN
    refine ⟨wl, pN, ws.map V.int, rfl, rfl, SqL.of (s6 _ _ fw5), SqL.of fN, ?_⟩
    have n6 := n5.same s6
    have k6 := k5.keep fun o e => s6 _ _ e
    have kf6 := kf5.keep fun o e => s6 _ _ e
    have fw6 := s6 _ _ fw5
    walk_at "z"
    refine z_iteN (fun cc => ?_) (fun cc => ?_)
    · obtain ⟨ws0, r, rfl⟩ := snoc_of (l := ws) (by rw [List.length_map] at cc; exact cc)
      obtain ⟨Ws0, R, rfl, hR, fa0⟩ := fa.pop
      have wl0 : ws0.length ≤ 4 * ks.length := by
        have e : (ws0 ++ [r]).length = ws0.length + 1 := by simp
        rw [e] at wmax
        omega
      refine ⟨_, fun _ _ h => h, ?_⟩
      walk_at "z"
      obtain ⟨dx6, ob6⟩ := n6.F.ob
      refine z_methR ob6 noFaces_kind ?_
      walk_at "z"
      refine z_tyL (SqL.of fw6) ?_
      rw [List.map_append] at fw6
      refine ⟨wl, ws0.map V.int ++ [V.int r], V.int r, rfl, rfl, fw6, by simp, ?_⟩
      rw [List.dropLast_concat]
      have nP := n6.put (o := .lst (ws0.map V.int)) ndw5 nHw
      have kP := k6.keep (H' := upd H6 wl (.lst (ws0.map V.int))) fun o e => (upd_ne dhw).trans e
      have kfP := kf6.keep (H' := upd H6 wl (.lst (ws0.map V.int))) fun o e => (upd_ne dfw).trans e
      have fwP : upd H6 wl (.lst (ws0.map V.int)) wl = some (.lst (ws0.map V.int)) := upd_same
      generalize upd H6 wl (.lst (ws0.map V.int)) = HP at nP kP kfP fwP ⊢
      walk_at "z"
      refine ⟨p, A, D5, _, bs, r, rfl, nP.F, nP.B, by omega, fun no => absurd ⟨hR.1, hR.lt⟩ no, fun R2 hR2 q3 B7 H7 D7 kp7 F7 u7 d7 aT => ?_⟩
      obtain rfl := hR2.inj hR
      have n7 := nP.after kp7 F7 B7 d7
      have k7 : KeysAt H7 had hk := kP.keep fun o e => (nP.own kp7 d7 nd5 e).1
      have nd7 : ¬ D7 had := by obtain ⟨kvs, e⟩ := kP.some; exact (nP.own kp7 d7 nd5 e).2
      have kf7 : KeysAt H7 fd ks := kfP.keep fun o e => (nP.own kp7 d7 ndf5 e).1
      have ndf7 : ¬ D7 fd := by obtain ⟨kvs, e⟩ := kfP.some; exact (nP.own kp7 d7 ndf5 e).2
      obtain ⟨fw7, ndw7⟩ := nP.own kp7 d7 ndw5 fwP
      have go7 := go.app (qs := q3)
      have fa7 := fa0.app (qs := q3)
      rw [List.append_assoc] at n7
      simp only [List.append_assoc] at aT go7 fa7 F7 B7 ⊢
      obtain ⟨t, ht, ek⟩ := kindN_mem (ps ++ (qs ++ (q2 ++ q3))) R2
      have kF : Kin R2 (R2.turn t) := ⟨t, ht, rfl⟩
      have aF := aT.kin kF
      have hF7 : IsF (ps ++ (qs ++ (q2 ++ q3))) ((kindN (ps ++ (qs ++ (q2 ++ q3))) R2 : Nat) : Int) (R2.turn t) := by rw [ek]; exact IsF.ix (aT t ht.1 ht.2)
      have hmR := hmem aT
      have hgo := go7.mem aT
      obtain ⟨dx7, ob7⟩ := n7.F.ob
      walk_at "z"
      refine z_methR ob7 noFaces_depth ?_
      walk_at "z"
      refine ⟨p, A, D7, _, _, rfl, n7.F, fun P8 hP8 => ?_, fun no => absurd ⟨hF7.1, hF7.lt⟩ no⟩
      obtain rfl := hP8.inj hF7
      rw [kF.depth]
      walk_at "z"
      refine z_ite (fun c1 => ?_) (fun c1 => ?_)
      rotate_left
      · walk_at "z"
        exact ⟨5 * (80000 - ks.length) + ws0.length, by rw [List.length_append]; show _ < _ + (_ + 1); omega, q2 ++ q3, D7, Fs, Ws0, ks, ws0, _, _, rfl, n7, k7, nd7, kf7, ndf7, fw7, ndw7, go7.skip hi (.inl (by omega)), fa7, by rw [List.length_append] at wmax; omega, rfl⟩
      walk_at "z"
      obtain ⟨oh, gh, eh⟩ := k7.get ((kindN (ps ++ (qs ++ (q2 ++ q3))) R2 : Nat) : Int)
      refine z_dniR gh ?_
      rw [eh]
      walk_at "z"
      refine z_iteN (fun c2 => ?_) (fun c2 => ?_)
      rotate_left
      · walk_at "z"
        exact ⟨5 * (80000 - ks.length) + ws0.length, by rw [List.length_append]; show _ < _ + (_ + 1); omega, q2 ++ q3, D7, Fs, Ws0, ks, ws0, _, _, rfl, n7, k7, nd7, kf7, ndf7, fw7, ndw7, go7.skip hi (.inr (.inl (hmR.mp c2))), fa7, by rw [List.length_append] at wmax; omega, rfl⟩
      walk_at "z"
      obtain ⟨of, gf, ef⟩ := kf7.get ((kindN (ps ++ (qs ++ (q2 ++ q3))) R2 : Nat) : Int)
      refine z_dniR gf ?_
      rw [ef]
      walk_at "z"
      refine z_iteN (fun c3 => ?_) (fun c3 => ?_)
      rotate_left
      · walk_at "z"
        exact ⟨5 * (80000 - ks.length) + ws0.length, by rw [List.length_append]; show _ < _ + (_ + 1); omega, q2 ++ q3, D7, Fs, Ws0, ks, ws0, _, _, rfl, n7, k7, nd7, kf7, ndf7, fw7, ndw7, go7.skip hi (.inr (.inr (hgo.mp c3))), fa7, by rw [List.length_append] at wmax; omega, rfl⟩
      walk_at "z"
      obtain ⟨H8, o8, dp, e8, kf8⟩ := kf7.put ((kindN (ps ++ (qs ++ (q2 ++ q3))) R2 : Nat) : Int) (.bl true) (szlt (by omega))
      refine z_dputR dp ?_
      rw [if_neg c3] at kf8
      subst e8
      have n8 := n7.put (o := o8) ndf7 nHf
      have k8 := k7.keep (H' := upd H7 fd o8) fun o e => (upd_ne dhf).trans e
      have fw8 : upd H7 fd o8 wl = _ := (upd_ne dfw.symm).trans fw7
      clear dp
      generalize upd H7 fd o8 = H8 at n8 k8 kf8 fw8 ⊢
      obtain ⟨dx8, ob8⟩ := n8.F.ob
      walk_at "z"
      refine z_methR ob8 noFaces_quarters ?_
      walk_at "z"
      refine ⟨p, A, D7, _, _, rfl, n8.F, fun P9 hP9 H9 a9 s9 f9 => ?_, fun no => absurd ⟨hF7.1, hF7.lt⟩ no⟩
      obtain rfl := hP9.inj hF7
      have d9 : (R2.turn t).depth ≠ 0 := by rw [kF.depth]; omega
      obtain ⟨nl, kl, nk⟩ := node_kids d9 (n8.F.inv.cl _ hF7.mem)
      rw [show quartersI (ps ++ (qs ++ (q2 ++ q3))) ((kindN (ps ++ (qs ++ (q2 ++ q3))) R2 : Nat) : Int) (R2.turn t) = nodeOf (ps ++ (qs ++ (q2 ++ q3))) (R2.turn t) from if_neg d9] at f9
      refine ⟨a9, rfl, ⟨_, SqT.of f9⟩, ?_⟩
      refine for_tup (K := K) (a := a9) (xs := (nodeOf (ps ++ (qs ++ (q2 ++ q3))) (R2.turn t)).map V.int) (fun i σ H' => ∃ y8, σ = [some (.ref p), some (.int f), some (.ref l), some (.ref had), y4, some (.ref fd), some (.ref wl), some (.int ((kindN (ps ++ (qs ++ (q2 ++ q3))) R2 : Nat) : Int)), y8] ∧ NS K bs ps p A D H H' D7 (qs ++ (q2 ++ q3)) ∧ KeysAt H' had hk ∧ KeysAt H' fd (ks ++ [((kindN (ps ++ (qs ++ (q2 ++ q3))) R2 : Nat) : Int)]) ∧ H' wl = some (.lst ((ws0 ++ (nodeOf (ps ++ (qs ++ (q2 ++ q3))) (R2.turn t)).take i).map V.int)) ∧ H' a9 = some (.tup ((nodeOf (ps ++ (qs ++ (q2 ++ q3))) (R2.turn t)).map V.int)))
        ⟨_, rfl, n8.same s9, k8.keep (fun o e => s9 _ _ e), kf8.keep (fun o e => s9 _ _ e), by rw [List.take_zero, List.append_nil]; exact s9 _ _ fw8, f9⟩ (fun i σ H' _ ⟨_, _, _, _, _, _, h⟩ => SqT.of h) ?_ ?_
      · rintro i v σ HA hi9 ⟨y8, rfl, nA, kA, kfA, fwA, faA⟩
        obtain ⟨m, hm, rfl⟩ : ∃ m, (nodeOf (ps ++ (qs ++ (q2 ++ q3))) (R2.turn t))[i]? = some m ∧ v = .int m := by
          rw [List.getElem?_map] at hi9
          cases e : (nodeOf (ps ++ (qs ++ (q2 ++ q3))) (R2.turn t))[i]? with
          | none => rw [e] at hi9; cases hi9
          | some m => rw [e] at hi9; exact ⟨m, rfl, (Option.some.inj hi9).symm⟩
        have aw : a9 ≠ wl := ne_of faA fwA (by intro z; cases z)
        walk_at "z"
        refine z_tyL (SqL.of fwA) ?_
        walk_at "z"
        refine z_app fwA (Nat.lt_of_lt_of_le (m := 400000) (by rw [List.length_map, List.length_append, List.length_take]; omega) (by decide)) ?_
        walk_at "z"
        refine ⟨_, rfl, nA.put ndw7 nHw, kA.keep (fun o e => (upd_ne dhw).trans e), kfA.keep (fun o e => (upd_ne dfw).trans e), ?_, (upd_ne aw).trans faA⟩
        rw [upd_same, List.take_add_one, hm, List.map_append, List.map_append, List.map_append, List.append_assoc]; rfl
      · rintro σ HA ⟨y8, rfl, nA, kA, kfA, fwA, faA⟩
        rw [List.length_map, List.take_of_length_le (Nat.le_refl _)] at fwA
        walk_at "z"
        have tk := go7.take hi (by omega) (fun z => c2 (hmR.mpr z)) kF aF (fun z => c3 (hgo.mpr z))
        rw [kF.num] at tk
        have fk : Facing (ps ++ (qs ++ (q2 ++ q3))) (nodeOf (ps ++ (qs ++ (q2 ++ q3))) (R2.turn t)) (R2.turn t).kids := ⟨nl, nk⟩
        have hl4 : (nodeOf (ps ++ (qs ++ (q2 ++ q3))) (R2.turn t)).length = 4 := nl.trans kl
        have hlw : (ws0 ++ [r]).length = ws0.length + 1 := by simp
        exact ⟨5 * (80000 - (ks.length + 1)) + (ws0.length + 4), by rw [hlw]; omega, q2 ++ q3, D7, _, _, _, _, _, _, rfl, nA, kA, nd7, kfA, ndf7, fwA, ndw7, tk, fa7.add fk, by rw [List.length_append, List.length_append, hl4]; rw [hlw] at wmax; show _ ≤ 1 + 4 * (_ + 1); omega, by rw [List.length_append, List.length_append, hl4]; rfl⟩
    · have ew : ws = [] := by rw [List.length_map] at cc; exact List.eq_nil_of_length_eq_zero cc
      subst ew
      have eW : Ws = [] := List.eq_nil_of_length_eq_zero (by have := fa.1; simpa using this.symm)
      subst eW
      have ip := go.done hi
      obtain ⟨kvs, ekv, ekm⟩ := kf6.list
      walk_at "z"
      refine ⟨fd, kvs, rfl, .inl ekv, ?_⟩
      rw [ekm]
      walk_at "zn"
      rename_i l1 nl1 H8 s8 f8
      have n8 := n6.same s8
      walk_at "z"
      have F9 : ∀ {H9 : Hp}, LamX.ExtN H8 H9 → FacesAt (He.ga K "Faces") H9 p A (fun b => D5 b ∧ ∀ t, H8 b ≠ some (.tbl t)) (ps ++ (qs ++ q2)) := fun e => FacesAt.extN n8.F e
      refine ⟨p, A, D5, _, l1, ks, rfl, n8.F, SqL.of f8, ip.isF n8.F.inv.nd, tabs_keep hT hF n8.kp, fun H9 q9 eN T9 nq f9 => ?_⟩
      have F10 := F9 eN
      have nD9 : ¬ (D5 q9 ∧ ∀ t, H8 q9 ≠ some (.tbl t)) := fun z => by
        obtain ⟨o, e⟩ := n8.F.ex q9 z.1
        obtain ⟨t, rfl⟩ := nq o e
        exact z.2 t e
      refine q H9 _ (qs ++ q2) ks q9 F10 n8.B ((KN.of n8.kp).trans (KN.ext eN)) (fun b z => n8.d b z.1) T9 ip (fun o e => ?_) nD9 f9
      by_cases c : A.foot q9
      · exact absurd (F10.df q9 c) nD9
      · exact nq o (n8.kp _ _ e c)
def spParts (K : PySem.W.Frag) : Sp := fun vs H Q _ => ∃ p A D ps bs f P, vs = [.ref p, .int f] ∧ FacesAt (He.ga K "Faces") H p A D ps ∧ Base bs ps ∧ bs.length ≤ 9000 ∧ IsF ps f P ∧ LamX.Tabs (tT K) H ∧
  ∀ H' D' qs ks q, FacesAt (He.ga K "Faces") H' p A D' (ps ++ qs) → Base bs (ps ++ qs) → KN A.foot H H' → (∀ b, D' b → D b ∨ H b = none) → LamX.Tabs (tT K) H' → IsParts (hadP ps []) (ps ++ qs) P ks → NewQ H q → ¬ D' q → H' q = some (.lst ((sortK (ps ++ qs) ks).map V.int)) → Q (.ref q) H'
abbrev npart_kinds : List Str := ["faces", "face"]
abbrev ppart_kinds : List Str := ["faces", "face"]
theorem scpart_kinds : FnScope npart_kinds ppart_kinds (defScope spart_kinds) := ⟨rfl, rfl, rfl, by decide +kernel, rfl, by decide +kernel, by decide +kernel⟩
theorem ok_part_kinds {P : Program} {w : World} {K : PySem.W.Frag} {mg : Str → Option Value} {base : Heap} (T : Tb w K mg base) : Fk P w K mg base 18 (He.ga K "part_kinds") ppart_kinds (spParts K) := by
  have Gneeded := ok_needed (P := P) (w := w) (base := base) T
  refine Fk.mk' T.fpart_kinds scpart_kinds (fun _ _ _ _ _ _ us hl => match us, hl with | [_, _], _ => rfl) (by
  intro vs H Q E h
  repeat (first | (obtain ⟨h1, _⟩ := h; subst h1; rfl) | (obtain ⟨_, h⟩ := h))) (fun cdv A outer s H vs Q E hr h => ?_)
  have hu := hu_of hr
  have hu64 := hr.units
  refine ⟨_, (pss_one (ps_ret (q_call Gneeded (hr.mono (by omega)) T.gneeded passX (pa_cons (pv 0) (pa_cons (pv 1) (pa_cons (pe_lst pa_nil) pa_nil)))))), ?_⟩
  try dsimp only [cxOf]
  obtain ⟨p, A, D, ps, bs, f, P, rfl, hF, hB, hbs, hP, hT, q⟩ := h
  walk_at "z"
  walk_at "zt"
  rename_i l nl H1 s1 fl
  walk_at "z"
  refine ⟨p, A, D, ps, bs, f, l, [], P, rfl, hF.same s1, hB, hbs, hP, fl, hF.ofFoot (hF.nd nl), by decide, by simp, hT.ext (fun b o e => s1 _ _ e), fun H2 D2 qs ks q2 F2 B2 k2 d2 T2 ip nq nD f2 => ?_⟩
  walk_at "z"
  exact q H2 D2 qs ks q2 F2 B2 (fun b o e t n => k2 b o (s1 _ _ e) t n) (fun b hb => (d2 b hb).imp id s1.free) T2 ip (fun o e => nq o (s1 _ _ e)) nD f2
def spDue14 (K : PySem.W.Frag) : Sp := fun vs H Q _ => ∃ p A D ps bs f l hs P, vs = [.ref p, .int f, .ref l] ∧ FacesAt (He.ga K "Faces") H p A D ps ∧ Base bs ps ∧ bs.length < 64 ∧ IsF ps f P ∧ H l = some (.lst (hs.map V.int)) ∧ ¬ D l ∧ hs.length ≤ 100 ∧ (∀ n ∈ hs, ∃ Y, IsF ps n Y) ∧
  ∀ H' D' qs ks q, NS K bs ps p A D H H' D' qs → IsParts (hadP ps hs) (ps ++ qs) P ks → H q = none → ¬ D' q → H' q = some (.lst ((sortK (ps ++ qs) ks).map V.int)) → Q (.ref q) H'
abbrev n_law_due : List Str := ["_law_faces", "_law_face", "_law_have", "_law_other", "_law_had", "_law_found", "_law_waiting", "_law_part", "_law_kind", "_law_rows", "_law_row_here"]
abbrev p_law_due : List Str := ["_law_faces", "_law_face", "_law_have"]
theorem sc_law_due : FnScope n_law_due p_law_due (defScope s_law_due) := ⟨rfl, rfl, rfl, by decide +kernel, rfl, by decide +kernel, by decide +kernel⟩
theorem ok__law_due {P : Program} {w : World} {K : PySem.W.Frag} {mg : Str → Option Value} {base : Heap} (T : Tb w K mg base) : Fk P w K mg base 17 (He.ga K "_law_due") p_law_due (spDue14 K) := by
  have GFaces_kind := ok_Faces_kind (P := P) (w := w) (base := base) T
  have GFaces_depth := ok_Faces_depth (P := P) (w := w) (base := base) T
  have GFaces_quarters := ok_Faces_quarters (P := P) (w := w) (base := base) T
  refine Fk.mk' T.f_law_due sc_law_due (fun _ _ _ _ _ _ us hl => match us, hl with | [_, _, _], _ => rfl) (by
  intro vs H Q E h
  repeat (first | (obtain ⟨h1, _⟩ := h; subst h1; rfl) | (obtain ⟨_, h⟩ := h))) (fun cdv A outer s H vs Q E hr h => ?_)
  have hu := hu_of hr
  have hu64 := hr.units
  refine ⟨_, (pss_cons (ps_setLc (i := 4) (own := [("_law_other", 3)]) (g := gName 3) rfl sc_law_due.nd rfl rfl (sw_true rfl rfl rfl (by decide +kernel)) (k_pil K (pv 2)) (blkOk_by (own := [("_law_other", 3)]) (N := n_law_due) (sc := defScope s_law_due) (by decide +kernel)) (fun _ _ _ _ _ => pg_name (i := 3) sc_law_due.nd rfl (Or.inl rfl)) (fun _ _ _ _ _ => pts_nil) (fun _ _ _ _ _ => (q_meth (pv 0) T.cFaces T.mFaces_kind GFaces_kind (hr.mono (by omega)) passL (pa_cons (pv 3) pa_nil))))
  (pss_cons (ps_set (i := 5) sc_law_due.nd rfl (Or.inl rfl) pe_dnewK)
  (pss_cons (ps_set (i := 6) sc_law_due.nd rfl (Or.inl rfl) (pe_lst (pa_cons (pv 1) pa_nil)))
  (pss_cons (ps_while (passes_of rfl) (pt_cmpR (k_neNilK K hu) (pv 6) (pe_lst pa_nil) (nomark _)) (pss_cons (ps_set (i := 7) sc_law_due.nd rfl (Or.inl rfl) (k_bm0 K PySem.F.plainAttrs_list PySem.F.slot_list_pop PySem.F.type_list_pop mt_pop (pv 6)))
  (pss_cons (ps_set (i := 8) sc_law_due.nd rfl (Or.inl rfl) (q_meth (pv 0) T.cFaces T.mFaces_kind GFaces_kind (hr.mono (by omega)) passX (pa_cons (pv 7) pa_nil)))
  (pss_one (ps_if (PW.pt (pw_and (pt_cmpR op_gt (q_meth (pv 0) T.cFaces T.mFaces_depth GFaces_depth (hr.mono (by omega)) passX (pa_cons (pv 7) pa_nil)) pe_int (nomark _)) (pw_and (pt_cmp (pc_dnotin hu (pv 8) (pv 5))) (pw_and1 (pt_cmpR (k_notin K) (pv 8) (pv 4) (by rfl)))))) (pss_cons (ps_dput hu (pv 5) (pv 8) pe_bl rfl)
  (pss_one (ps_set (i := 6) sc_law_due.nd rfl (Or.inl rfl) (pe_op (k_add K) (pv 6) (pe_callTy (k_list K) (by rfl) T.ulist (by decide +kernel) (pa_cons (q_meth (pv 0) T.cFaces T.mFaces_quarters GFaces_quarters (hr.mono (by omega)) passX (pa_cons (pv 7) pa_nil)) pa_nil)))))) pss_nil)))))
  (pss_cons (ps_set (i := 9) sc_law_due.nd rfl (Or.inl rfl) (pe_callB cr_sortedPO (by rfl) T.usorted (by decide +kernel) (pa_cons (pe_lc (own := [("_law_kind", 8)]) (g := gName 8) rfl sc_law_due.nd (k_pil K (pe_callB (call_sortedDI rfl) (by rfl) T.usorted (by decide +kernel) (pa_cons (pv 5) pa_nil))) (blkOk_by (own := [("_law_kind", 8)]) (N := n_law_due) (sc := defScope s_law_due) (by decide +kernel)) (fun _ _ _ _ _ => pg_name (i := 8) sc_law_due.nd rfl (Or.inl rfl)) (fun _ _ _ _ _ => pts_nil) (fun _ _ _ _ _ => (pe_tup (pa_cons (pe_op op_sub pe_int (q_meth (pv 0) T.cFaces T.mFaces_depth GFaces_depth (hr.mono (by omega)) passL (pa_cons (pv 8) pa_nil))) (pa_cons (pv 8) pa_nil))))) pa_nil)))
  (pss_one (ps_ret (pe_lc (own := [("_law_row_here", 10)]) (g := gName 10) rfl sc_law_due.nd (k_pil K (pv 9)) (blkOk_by (own := [("_law_row_here", 10)]) (N := n_law_due) (sc := defScope s_law_due) (by decide +kernel)) (fun _ _ _ _ _ => pg_name (i := 10) sc_law_due.nd rfl (Or.inl rfl)) (fun _ _ _ _ _ => pts_nil) (fun _ _ _ _ _ => (k_ix K (pv 10) pe_int (fun _ _ => rfl))))))))))), ?_⟩
  try dsimp only [cxOf]
  obtain ⟨p, A, D, ps, bs, f, l, hs, P, rfl, hF, hB, hbs, hP, hl, nl0, hhs, hY, q⟩ := h
  have hi := hadP_inv ps hs
  walk_at "z"
  refine ⟨l, rfl, ⟨_, SqL.of hl⟩, fun hd nhd => ?_⟩
  have lhd : l ≠ hd := ne_of_none hl nhd
  refine lc_list (K := K) (a := l) (xs := hs.map V.int) (fun i H' => ∃ qs D' hk, NS K bs ps p A D H H' D' qs ∧ H' l = some (.lst (hs.map V.int)) ∧ H' hd = some (.lst (hk.map V.int)) ∧ ¬ D' hd ∧ hk.length = i ∧ (∀ k : Int, k ∈ hk ↔ ∃ n ∈ hs.take i, ∃ Y, IsF ps n Y ∧ k = ((kindN (ps ++ qs) Y : Nat) : Int)) ∧ ∀ n ∈ hs.take i, ∀ Y, IsF ps n Y → AllT (ps ++ qs) Y)
    ⟨[], D, [], (NS.start hF hB).same (Same.new nhd), (upd_ne lhd).trans hl, upd_same, hF.nd nhd, rfl, fun k => by simp, fun n hn => by simp at hn⟩ (fun i H' _ ⟨_, _, _, _, h, _⟩ => SqL.of h) ?_ ?_
  · rintro i v H2 hi2 ⟨qs, D2, hk, n2, hl2, k2, nd2, hkl, mem2, all2⟩
    obtain ⟨n, hn, rfl⟩ : ∃ n, hs[i]? = some n ∧ v = .int n := by
      rw [List.getElem?_map] at hi2
      cases e : hs[i]? with
      | none => rw [e] at hi2; cases hi2
      | some n => rw [e] at hi2; exact ⟨n, rfl, (Option.some.inj hi2).symm⟩
    have hil : i < hs.length := (List.getElem?_eq_some_iff.mp hn).1
    obtain ⟨Y1, hY1⟩ := hY n (List.mem_of_getElem? hn)
    have hf : IsF (ps ++ qs) n Y1 := hY1.app
    obtain ⟨dx, ob⟩ := n2.F.ob
    walk_at "zw"
    walk_at "z"
    refine ⟨rfl, ?_⟩
    walk_at "z"
    refine z_methR ob noFaces_kind ?_
    walk_at "z"
    refine ⟨p, A, D2, _, bs, n, rfl, n2.F, n2.B, by omega, fun no => absurd ⟨hf.1, hf.lt⟩ no, fun Y2 hY2 q2 B3 H3 D3 kp3 F3 u3 d3 aT => ?_⟩
    obtain rfl := hY2.inj hf
    have n3 := n2.after kp3 F3 B3 d3
    obtain ⟨k3, nd3⟩ := n2.own kp3 d3 nd2 k2
    have nl2 : ¬ D2 l := fun z => (n2.d l z).elim nl0 fun e => by rw [hl] at e; cases e
    have hl3 := (n2.own kp3 d3 nl2 hl2).1
    rw [List.append_assoc] at aT ⊢
    refine ⟨_, k3, szlt (by rw [List.length_map]; omega), qs ++ q2, D3, hk ++ [((kindN (ps ++ (qs ++ q2)) Y2 : Nat) : Int)], n3.put nd3 nhd, (upd_ne lhd).trans hl3, by rw [upd_same, List.map_append]; rfl, nd3, by simp [hkl], fun k => ?_, fun m hm Y hYm => ?_⟩
    · rw [List.mem_append, List.mem_singleton, mem2, List.take_add_one, hn]
      constructor
      · rintro (⟨m, hm, Y, hYm, e⟩ | rfl)
        · exact ⟨m, List.mem_append_left _ hm, Y, hYm, by rw [e, ← List.append_assoc, kindN_app (all2 m hm Y hYm)]⟩
        · exact ⟨n, by simp, Y2, hY1, rfl⟩
      · rintro ⟨m, hm, Y, hYm, e⟩
        rcases List.mem_append.mp hm with z | z
        · exact .inl ⟨m, z, Y, hYm, by rw [e, ← List.append_assoc, kindN_app (all2 m z Y hYm)]⟩
        · have z : m = n := by simpa using z
          subst z
          obtain rfl := hYm.inj hY1
          exact .inr e
    · rw [List.take_add_one, hn] at hm
      rcases List.mem_append.mp hm with z | z
      · rw [← List.append_assoc]; exact (all2 m z Y hYm).app
      · have z : m = n := by simpa using z
        subst z
        obtain rfl := hYm.inj hY1
        exact aT
  rintro H2 ⟨qs0, D2, hk, n0, hl2, k2, nd2, hkl, mem2, all2⟩
  rw [List.length_map] at hkl
  rw [List.length_map, List.take_of_length_le (Nat.le_refl _)] at mem2 all2
  have hmem : ∀ {q2 : List Pic} {R : Pic}, AllT (ps ++ (qs0 ++ q2)) R → (((kindN (ps ++ (qs0 ++ q2)) R : Nat) : Int) ∈ hk ↔ hadP ps hs R) := fun {q2 R} aR => by
    rw [mem2]
    constructor
    · rintro ⟨n, hn, Y, hY, e⟩
      have aY := all2 n hn Y hY
      rw [← List.append_assoc] at e aR
      rw [← kindN_app (qs := q2) aY] at e
      exact ⟨n, hn, Y, hY, kindN_eq aY.app aR (by omega)⟩
    · rintro ⟨n, hn, Y, hY, k⟩
      have aY := all2 n hn Y hY
      exact ⟨n, hn, Y, hY, by rw [← List.append_assoc, ← kindN_app (qs := q2) aY, k.num]⟩
  walk_at "zw"
  walk_at "z"
  walk_at "zn"
  rename_i fd nfd H1 s1 ffd
  walk_at "z"
  walk_at "zt"
  rename_i wl0 nwl0 H2 s2 fwl0
  have n1 := n0.same s1
  have nHf : H fd = none := n0.live fd nfd
  have dhf : hd ≠ fd := ne_of_none k2 nfd
  have hk2 := s2 _ _ (s1 _ _ k2)
  have dhw0 : hd ≠ wl0 := ne_of_none (s1 _ _ k2) nwl0
  have n2 := n1.same s2
  have kf2 : KeysAt H2 fd [] := ⟨[], s2 _ _ ffd, rfl⟩
  walk_at "z"
  refine z_while (fun m σ H' => ∃ qs D' Fs Ws ks ws wl y4 y5, σ = [some (.ref p), some (.int f), some (.ref l), none, some (.ref hd), some (.ref fd), some (.ref wl), y4, y5, none, none] ∧ NS K bs ps p A D H H' D' (qs0 ++ qs) ∧ H' hd = some (.lst (hk.map V.int)) ∧ ¬ D' hd ∧ hd ≠ wl ∧ KeysAt H' fd ks ∧ ¬ D' fd ∧ H' wl = some (.lst (ws.map V.int)) ∧ ¬ D' wl ∧ H wl = none ∧ fd ≠ wl ∧ Going (hadP ps hs) P (ps ++ (qs0 ++ qs)) Fs Ws ks ∧ Facing (ps ++ (qs0 ++ qs)) ws Ws ∧ ws.length ≤ 1 + 4 * ks.length ∧ m = 5 * (80000 - ks.length) + ws.length) (5 * 80000 + 1)
    ⟨[], D2, [], [P], [], [f], wl0, _, _, rfl, by rw [List.append_nil]; exact n2, hk2, nd2, dhw0, kf2, n0.F.nd nfd, fwl0, n1.F.nd nwl0, n1.live _ nwl0, ne_of_none ffd nwl0, Going.start, ⟨rfl, fun i n W e1 e2 => ?_⟩, by simp, rfl⟩ ?_
  · have hi0 : i = 0 := by have := (List.getElem?_eq_some_iff.mp e1).1; simpa using this
    subst hi0
    obtain rfl := Option.some.inj e1
    obtain rfl := Option.some.inj e2
    rw [List.append_nil]; exact hP.app
  rintro m σ H5 ⟨qs, D5, Fs, Ws, ks, ws, wl, y4, y5, rfl, n5, hd5, ndh5, dhw, kf5, ndf5, fw5, ndw5, nHw, dfw, go, fa, wmax, rfl⟩
  have klen := go.few n5.B
  walk_at "z"
  walk_at "zt"
  rename_i pN npN H6 s6 fN
  refine ⟨wl, pN, ws.map V.int, rfl, rfl, SqL.of (s6 _ _ fw5), SqL.of fN, ?_⟩
  have n6 := n5.same s6
  have kf6 := kf5.keep fun o e => s6 _ _ e
  have hd6 := s6 _ _ hd5
  have fw6 := s6 _ _ fw5
  walk_at "z"
  refine z_iteN (fun cc => ?_) (fun cc => ?_)
  · obtain ⟨ws0, r, rfl⟩ := snoc_of (l := ws) (by rw [List.length_map] at cc; exact cc)
    obtain ⟨Ws0, R, rfl, hR, fa0⟩ := fa.pop
    have wl1 : ws0.length ≤ 4 * ks.length := by
      have e : (ws0 ++ [r]).length = ws0.length + 1 := by simp
      rw [e] at wmax
      omega
    refine ⟨_, fun _ _ h => h, ?_⟩
    walk_at "z"
    refine z_tyL (SqL.of fw6) ?_
    rw [List.map_append] at fw6
    refine ⟨wl, ws0.map V.int ++ [V.int r], V.int r, rfl, rfl, fw6, by simp, ?_⟩
    rw [List.dropLast_concat]
    have nP := n6.put (o := .lst (ws0.map V.int)) ndw5 nHw
    have hdP : upd H6 wl (.lst (ws0.map V.int)) hd = _ := (upd_ne dhw).trans hd6
    have kfP := kf6.keep (H' := upd H6 wl (.lst (ws0.map V.int))) fun o e => (upd_ne dfw).trans e
    have fwP : upd H6 wl (.lst (ws0.map V.int)) wl = some (.lst (ws0.map V.int)) := upd_same
    generalize upd H6 wl (.lst (ws0.map V.int)) = HP at nP hdP kfP fwP ⊢
    obtain ⟨dx6, ob6⟩ := nP.F.ob
    walk_at "z"
    refine z_methR ob6 noFaces_kind ?_
    walk_at "z"
    refine ⟨p, A, D5, _, bs, r, rfl, nP.F, nP.B, by omega, fun no => absurd ⟨hR.1, hR.lt⟩ no, fun R2 hR2 q3 B7 H7 D7 kp7 F7 u7 d7 aT => ?_⟩
    obtain rfl := hR2.inj hR
    have n7 := nP.after kp7 F7 B7 d7
    have kf7 : KeysAt H7 fd ks := kfP.keep fun o e => (nP.own kp7 d7 ndf5 e).1
    have ndf7 : ¬ D7 fd := by obtain ⟨kvs, e⟩ := kfP.some; exact (nP.own kp7 d7 ndf5 e).2
    obtain ⟨fw7, ndw7⟩ := nP.own kp7 d7 ndw5 fwP
    obtain ⟨hd7, ndh7⟩ := nP.own kp7 d7 ndh5 hdP
    rw [List.append_assoc] at n7
    have go7 := go.app (qs := q3)
    have fa7 := fa0.app (qs := q3)
    have hR7 := hR.app (qs := q3)
    simp only [List.append_assoc] at aT go7 fa7 F7 B7 hR7 ⊢
    have hgo := go7.mem aT
    have hmR := hmem aT
    obtain ⟨dx7, ob7⟩ := n7.F.ob
    walk_at "z"
    refine z_methR ob7 noFaces_depth ?_
    walk_at "z"
    refine ⟨p, A, D7, _, _, rfl, n7.F, fun P8 hP8 => ?_, fun no => absurd ⟨hR7.1, hR7.lt⟩ no⟩
    obtain rfl := hP8.inj hR7
    walk_at "z"
    refine z_ite (fun c1 => ?_) (fun c1 => ?_)
    rotate_left
    · walk_at "z"
      exact ⟨5 * (80000 - ks.length) + ws0.length, by rw [List.length_append]; show _ < _ + (_ + 1); omega, qs ++ q3, D7, Fs, Ws0, ks, ws0, wl, _, _, rfl, n7, hd7, ndh7, dhw, kf7, ndf7, fw7, ndw7, nHw, dfw, go7.skip hi (.inl (by omega)), fa7, by omega, rfl⟩
    walk_at "z"
    obtain ⟨of, gf, ef⟩ := kf7.get ((kindN (ps ++ (qs0 ++ (qs ++ q3))) P8 : Nat) : Int)
    refine z_dniR gf ?_
    rw [ef]
    walk_at "z"
    refine z_iteN (fun c3 => ?_) (fun c3 => ?_)
    rotate_left
    · walk_at "z"
      exact ⟨5 * (80000 - ks.length) + ws0.length, by rw [List.length_append]; show _ < _ + (_ + 1); omega, qs ++ q3, D7, Fs, Ws0, ks, ws0, wl, _, _, rfl, n7, hd7, ndh7, dhw, kf7, ndf7, fw7, ndw7, nHw, dfw, go7.skip hi (.inr (.inr (hgo.mp c3))), fa7, by omega, rfl⟩
    walk_at "z"
    refine z_notinL (SqL.of hd7) ?_
    walk_at "z"
    refine z_iteN (fun c4 => ?_) (fun c4 => ?_)
    rotate_left
    · have cx : ((kindN (ps ++ (qs0 ++ (qs ++ q3))) P8 : Nat) : Int) ∈ hk := c4
      walk_at "z"
      exact ⟨5 * (80000 - ks.length) + ws0.length, by rw [List.length_append]; show _ < _ + (_ + 1); omega, qs ++ q3, D7, Fs, Ws0, ks, ws0, wl, _, _, rfl, n7, hd7, ndh7, dhw, kf7, ndf7, fw7, ndw7, nHw, dfw, go7.skip hi (.inr (.inl (hmR.mp cx))), fa7, by omega, rfl⟩
    walk_at "z"
    obtain ⟨H8, o8, dp, e8, kf8⟩ := kf7.put ((kindN (ps ++ (qs0 ++ (qs ++ q3))) P8 : Nat) : Int) (.bl true) (szlt (by omega))
    refine z_dputR dp ?_
    rw [if_neg c3] at kf8
    subst e8
    have n8 := n7.put (o := o8) ndf7 nHf
    have hd8 : upd H7 fd o8 hd = _ := (upd_ne dhf).trans hd7
    have fw8 : upd H7 fd o8 wl = _ := (upd_ne dfw.symm).trans fw7
    clear dp
    generalize upd H7 fd o8 = H8 at n8 hd8 kf8 fw8 ⊢
    obtain ⟨dx8, ob8⟩ := n8.F.ob
    walk_at "z"
    refine z_methR ob8 noFaces_quarters ?_
    walk_at "z"
    refine ⟨p, A, D7, _, _, rfl, n8.F, fun P9 hP9 H9 a9 s9 f9 => ?_, fun no => absurd ⟨hR7.1, hR7.lt⟩ no⟩
    obtain rfl := hP9.inj hR7
    have d9 : P9.depth ≠ 0 := by omega
    obtain ⟨nl, kl, nk⟩ := node_kids d9 (n8.F.inv.cl _ hR7.mem)
    rw [show quartersI (ps ++ (qs0 ++ (qs ++ q3))) r P9 = nodeOf (ps ++ (qs0 ++ (qs ++ q3))) P9 from if_neg d9] at f9
    have hl4 : (nodeOf (ps ++ (qs0 ++ (qs ++ q3))) P9).length = 4 := nl.trans kl
    have n9 := n8.same s9
    have kf9 := kf8.keep fun o e => s9 _ _ e
    walk_at "z"
    refine z_listT (SqT.of f9) ?_
    walk_at "zn"
    rename_i l10 nl10 HA sA fA
    have nA := n9.same sA
    have kfA := kf9.keep fun o e => sA _ _ e
    refine z_addL (sA _ _ (s9 _ _ fw8)) fA (Nat.le_trans (m := 400000) (by rw [List.length_map, List.length_map, hl4]; omega) (by decide)) ?_
    walk_at "zn"
    rename_i wl2 nwl2 HB sB fB
    have nB := nA.same sB
    walk_at "z"
    have tk := go7.take hi (by omega) (fun z => c4 (hmR.mpr z)) (Kin.refl P9) aT (fun z => c3 (hgo.mpr z))
    have fk : Facing (ps ++ (qs0 ++ (qs ++ q3))) (nodeOf (ps ++ (qs0 ++ (qs ++ q3))) P9) P9.kids := ⟨nl, nk⟩
    have hlw : (ws0 ++ [r]).length = ws0.length + 1 := by simp
    rw [← List.map_append] at fB
    obtain ⟨kvA, ekA⟩ := kfA.some
    have hdA := sA _ _ (s9 _ _ hd8)
    exact ⟨5 * (80000 - (ks.length + 1)) + (ws0.length + 4), by rw [hlw]; omega, qs ++ q3, D7, _, _, _, _, wl2, _, _, rfl, nB, sB _ _ hdA, ndh7, ne_of_none hdA nwl2, kfA.keep (fun o e => sB _ _ e), ndf7, fB, nA.F.nd nwl2, nA.live _ nwl2, ne_of_none ekA nwl2, tk, fa7.add fk, by rw [List.length_append, List.length_append, hl4]; rw [hlw] at wmax; show _ ≤ 1 + 4 * (_ + 1); omega, by rw [List.length_append, List.length_append, hl4]; rfl⟩
  · have ew : ws = [] := by rw [List.length_map] at cc; exact List.eq_nil_of_length_eq_zero cc
    subst ew
    have eW : Ws = [] := List.eq_nil_of_length_eq_zero (by have := fa.1; simpa using this.symm)
    subst eW
    have ip := go.done hi
    obtain ⟨kvs, ekv, ekm⟩ := id kf6
    walk_at "z"
    refine ⟨fd, kvs, ks, rfl, .inl ekv, ekm, by omega, fun ys pS hperm _ npS => ?_⟩
    have sS : Same H6 (upd H6 pS (.lst (ys.map V.int))) := Same.new npS
    have fS : upd H6 pS (.lst (ys.map V.int)) pS = some (.lst (ys.map V.int)) := upd_same
    generalize upd H6 pS (.lst (ys.map V.int)) = H7 at sS fS ⊢
    have n7 := n6.same sS
    have yIs : ∀ n ∈ ys, ∃ Q, IsF (ps ++ (qs0 ++ qs)) n Q := fun n hn => ip.isF n6.F.inv.nd n (hperm.mem_iff.mp hn)
    refine ⟨pS, rfl, ⟨_, SqL.of fS⟩, fun L hL => ?_⟩
    refine lc_list (K := K) (a := pS) (xs := ys.map V.int) (fun i H' => Same H7 H' ∧ ∃ vs, H' L = some (.lst vs) ∧ vs.length = i ∧ ∀ (j : Nat) (v : V) (n : Int), vs[j]? = some v → ys[j]? = some n → ∃ t, v = .ref t ∧ H' t = some (.tup [.int (0 - depN (ps ++ (qs0 ++ qs)) n), .int n]))
      ⟨Same.new hL, [], upd_same, rfl, fun j v n e => by simp at e⟩ (fun i H' _ h => SqL.of (h.1 _ _ fS)) ?_ ?_
    · rintro i v H' hiy ⟨s8, vs, fL, hvl, hvs⟩
      obtain ⟨n, hn, rfl⟩ : ∃ n, ys[i]? = some n ∧ v = .int n := by
        rw [List.getElem?_map] at hiy
        cases e : ys[i]? with
        | none => rw [e] at hiy; cases hiy
        | some n => rw [e] at hiy; exact ⟨n, rfl, (Option.some.inj hiy).symm⟩
      have hyl : ys.length < 64 := by rw [hperm.length_eq]; omega
      have hil : i < ys.length := (List.getElem?_eq_some_iff.mp hn).1
      obtain ⟨Q1, hQ1⟩ := yIs n (List.mem_of_getElem? hn)
      have n8 := n7.same s8
      obtain ⟨dx8, ob8⟩ := n8.F.ob
      walk_at "zw"
      walk_at "z"
      refine ⟨rfl, ?_⟩
      walk_at "z"
      refine z_methR ob8 noFaces_depth ?_
      walk_at "z"
      refine ⟨p, A, D5, _, n, rfl, n8.F, fun Q2 hQ2 => ?_, fun no => absurd ⟨hQ1.1, hQ1.lt⟩ no⟩
      walk_at "z"
      walk_at "zt"
      rename_i t nt H9 s9 ft
      have tl : t ≠ L := (ne_of_none fL nt).symm
      refine ⟨vs, s9 _ _ fL, szlt (by omega), (s8.trans s9).set hL, vs ++ [.ref t], upd_same, by simp [hvl], fun j v m e1 e2 => ?_⟩
      by_cases c : j < vs.length
      · rw [List.getElem?_append_left c] at e1
        obtain ⟨t2, rfl, h2⟩ := hvs j v m e1 e2
        exact ⟨t2, rfl, (upd_ne (ne_of (s9 _ _ h2) (s9 _ _ fL) (by intro z; cases z))).trans (s9 _ _ h2)⟩
      · have ej : j = vs.length := by
          have := (List.getElem?_eq_some_iff.mp e1).1
          rw [List.length_append] at this
          have l1 : ([V.ref t] : List V).length = 1 := rfl
          omega
        rw [ej] at e1
        have e1 : V.ref t = v := by simpa using e1
        subst e1
        rw [ej, hvl, hn] at e2
        obtain rfl := Option.some.inj e2
        refine ⟨t, rfl, (upd_ne tl).trans ?_⟩
        rw [ft, depN_of hQ2]
    · rintro H8 ⟨s8, vs, fL, hvl, hvs⟩
      rw [List.length_map] at hvl
      walk_at "zw"
      walk_at "z"
      refine ⟨L, vs, pairV H8, rfl, SqL.of fL, fun x hx => ?_, fun zs pR hsz hbz npR => ?_⟩
      · obtain ⟨j, hj⟩ := List.mem_iff_getElem?.mp hx
        have jl := (List.getElem?_eq_some_iff.mp hj).1
        obtain ⟨t, rfl, e⟩ := hvs j x _ hj (List.getElem?_eq_getElem (by omega))
        exact ⟨t, rfl, by rw [pairV_of e]; exact e⟩
      have hrows := rows_sorted hvl hvs hperm hsz hbz.perm
      have sR : Same H8 (upd H8 pR (.lst zs)) := Same.new npR
      have fR : upd H8 pR (.lst zs) pR = some (.lst zs) := upd_same
      have hzl : zs.length < 64 := by rw [hbz.perm.length_eq, hvl, hperm.length_eq]; omega
      have hzt : ∀ z ∈ zs, ∃ t i j, z = .ref t ∧ H8 t = some (.tup [.int i, .int j]) := fun z hz => by
        obtain ⟨j, hj⟩ := List.mem_iff_getElem?.mp (hbz.perm.mem_iff.mp hz)
        have jl := (List.getElem?_eq_some_iff.mp hj).1
        obtain ⟨t, rfl, e⟩ := hvs j z _ hj (List.getElem?_eq_getElem (by omega))
        exact ⟨t, _, _, rfl, e⟩
      have n8 := n7.same s8
      generalize upd H8 pR (.lst zs) = H9 at sR fR ⊢
      have n9 := n8.same sR
      walk_at "z"
      refine ⟨pR, rfl, ⟨_, SqL.of fR⟩, fun M hM => ?_⟩
      refine lc_list (K := K) (a := pR) (xs := zs) (fun i H' => Same H9 H' ∧ H' M = some (.lst (((zs.take i).map fun z => (pairV H8 z).2).map V.int))) ⟨Same.new hM, upd_same⟩ (fun i H' _ h => SqL.of (h.1 _ _ fR)) ?_ ?_
      · rintro i v H' hiz ⟨sA, fM⟩
        obtain ⟨t, a1, b1, rfl, ht⟩ := hzt v (List.mem_of_getElem? hiz)
        walk_at "zw"
        walk_at "z"
        refine ⟨rfl, ?_⟩
        walk_at "z"
        refine z_ixT (SqT.of (sA _ _ (sR _ _ ht))) (atI_of (n := 1) rfl rfl) ?_
        refine ⟨_, fM, szlt (by rw [List.length_map, List.length_map, List.length_take]; omega), sA.set hM, ?_⟩
        rw [upd_same, List.take_add_one, hiz, List.map_append, List.map_append]
        show _ = some (HO.lst (_ ++ [V.int (pairV H8 (.ref t)).2]))
        rw [pairV_of ht]
      · rintro HZ ⟨sZ, fM⟩
        rw [List.take_of_length_le (Nat.le_refl _), hrows] at fM
        walk_at "zw"
        walk_at "z"
        exact q HZ D5 (qs0 ++ qs) ks M (n9.same sZ) ip (n9.live _ hM) (n9.F.nd hM) fM
theorem cut_6_20 {ns : List Int} (h : ns.length ≤ 63) : ∃ ms : List Int, cutV (ns.map V.int) (some 6) (some 20) = ms.map V.int ∧ ms.length ≤ 14 := by
  have key : ∀ n : Nat, n < 64 → HT.sIx n n (some 20) - HT.sIx n 0 (some 6) ≤ 14 := by decide
  unfold cutV
  refine ⟨(ns.drop (HT.sIx (ns.map V.int).length 0 (some 6))).take (HT.sIx (ns.map V.int).length (ns.map V.int).length (some 20) - HT.sIx (ns.map V.int).length 0 (some 6)), by rw [List.map_take, List.map_drop], ?_⟩
  have := key (ns.map V.int).length (by rw [List.length_map]; omega)
  rw [List.length_take]
  omega
theorem dptI : ∀ l : List Int, dptAll (l.map PyData.int) = 0
  | [] => rfl
  | x :: l => by rw [List.map_cons, dptAll, dptI l]; rfl
theorem drop_get {ps : List Pic} {Ps : List Pic} {n i : Nat} {v : V} (e : ((Ps.drop n).map fun P => V.int (ix ps P : Nat))[i]? = some v) : ∃ P, P ∈ Ps ∧ v = .int (ix ps P : Nat) := by
  rw [List.getElem?_map] at e
  cases h : (Ps.drop n)[i]? with
  | none => rw [h] at e; cases e
  | some P => rw [h] at e; exact ⟨P, List.mem_of_mem_drop (List.mem_of_getElem? h), (Option.some.inj e).symm⟩
theorem lay_ints : ∀ ns : List Int, PyData.canLayAll0 (ns.map PyData.int) = true
  | [] => rfl
  | n :: ns => by simp [PyData.canLayAll0, PyData.canLay0, lay_ints ns]
theorem dep_ints : ∀ ns : List Int, PyData.depthAll (ns.map PyData.int) = 0
  | [] => rfl
  | n :: ns => by simp [PyData.depthAll, PyData.depth, dep_ints ns]
theorem shaped_ints (ns : List Int) : SeqAt.shaped (.list (ns.map PyData.int)) = true := by simp [SeqAt.shaped, PyData.canLay0, lay_ints, PyData.depth, dep_ints]
theorem atI_last (vs : List V) (v : V) : atI (vs ++ [v]) (-1) = some v := by
  unfold atI ixN
  rw [List.length_append, if_neg (by omega), if_pos (by simp; omega)]
  have e : (-1 + ((vs.length + [v].length : Nat) : Int)).toNat = vs.length := by simp; omega
  show (vs ++ [v])[(-1 + ((vs.length + [v].length : Nat) : Int)).toNat]? = some v
  rw [e, List.getElem?_append_right (Nat.le_refl _), Nat.sub_self]; rfl
theorem z_joinIfK {tt : TT} {ts tu : TS} {D : Ends} {σ : L2.St} {H : Hp} {R : L2.St → Hp → Prop} (h : ∀ D' : Ends, (∀ σ' H', R σ' H' → D'.nx σ' H') → (∀ v H', D.rt v H' → D'.rt v H') → tIfS tt ts tu D' σ H) (k : ∀ σ' H', R σ' H' → D.nx σ' H') : tIfS tt ts tu D σ H := h D k fun _ _ h => h
theorem hadP_app {ps qs : List Pic} {hs : List Int} (h : ∀ n ∈ hs, ∃ Y, IsF ps n Y) : hadP (ps ++ qs) hs = hadP ps hs := by
  funext R
  refine propext ⟨fun ⟨n, hn, Y, hY, k⟩ => ?_, fun ⟨n, hn, Y, hY, k⟩ => ⟨n, hn, Y, hY.app, k⟩⟩
  obtain ⟨Z, hZ⟩ := h n hn
  obtain rfl := hY.inj hZ.app
  exact ⟨n, hn, Y, hZ, k⟩
theorem parts_eq {h : Pic → Prop} {ps q1 q2 : List Pic} {P : Pic} {ks1 ks2 : List Int} (nd : (ps ++ q1).Nodup) (a : IsParts h (ps ++ q1) P ks1) (b : IsParts h (ps ++ q1 ++ q2) P ks2) : sortK (ps ++ q1 ++ q2) ks2 = sortK (ps ++ q1) ks1 := by
  rw [← sortK_app (qs := q2) (a.isF nd)]
  exact sortK_eq (b.perm a.app)
structure St14 (K : PySem.W.Frag) (H H' : Hp) (p : Addr) (A : FA) (D' : Addr → Prop) (bs ps : List Pic) (own : List (Addr × List V)) : Prop where
  F : FacesAt (He.ga K "Faces") H' p A D' ps
  B : Base bs ps
  k : KN A.foot H H'
  T : LamX.Tabs (tT K) H'
  own : ∀ x ∈ own, H' x.1 = some (.lst x.2) ∧ ¬ D' x.1
section
variable {K : PySem.W.Frag} {H H' H2 : Hp} {p : Addr} {A : FA} {D' D2 : Addr → Prop} {bs ps qs : List Pic} {own : List (Addr × List V)} {l : Addr} {c c2 : List V}
theorem St14.same (s : St14 K H H' p A D' bs ps own) (e : Same H' H2) : St14 K H H2 p A D' bs ps own :=
  ⟨s.F.same e, s.B, s.k.same e, s.T.ext fun b o h => e b o h, fun x hx => ⟨e _ _ (s.own x hx).1, (s.own x hx).2⟩⟩
theorem St14.add (s : St14 K H H' p A D' bs ps own) (e : H' l = some (.lst c)) (n : ¬ D' l) : St14 K H H' p A D' bs ps ((l, c) :: own) :=
  ⟨s.F, s.B, s.k, s.T, fun x hx => by
    rcases List.mem_cons.mp hx with rfl | hx
    · exact ⟨e, n⟩
    · exact s.own x hx⟩
theorem St14.sub (s : St14 K H H' p A D' bs ps own) {own2 : List (Addr × List V)} (i : ∀ x ∈ own2, x ∈ own) : St14 K H H' p A D' bs ps own2 := ⟨s.F, s.B, s.k, s.T, fun x hx => s.own x (i x hx)⟩
theorem St14.next (s : St14 K H H' p A D' bs ps own) (F2 : FacesAt (He.ga K "Faces") H2 p A D2 (ps ++ qs)) (B2 : Base bs (ps ++ qs)) (k2 : KN A.foot H' H2) (d2 : ∀ b, D2 b → D' b ∨ H' b = none) (T2 : LamX.Tabs (tT K) H2) : St14 K H H2 p A D2 bs (ps ++ qs) own :=
  ⟨F2, B2, s.k.trans k2, T2, fun x hx => ⟨k2 _ _ (s.own x hx).1 (fun t z => by cases z) (s.F.ofFoot (s.own x hx).2), fun z => (d2 _ z).elim (s.own x hx).2 fun e => by rw [(s.own x hx).1] at e; cases e⟩⟩
theorem St14.after (s : St14 K H H' p A D' bs ps own) (F2 : FacesAt (He.ga K "Faces") H2 p A D2 (ps ++ qs)) (B2 : Base bs (ps ++ qs)) (k2 : Keep A.foot H' H2) (d2 : ∀ b, D2 b → D' b ∨ H' b = none) : St14 K H H2 p A D2 bs (ps ++ qs) own :=
  s.next F2 B2 (KN.of k2) d2 (tabs_keep s.T s.F k2)
/-- a list of one's own is written -/
theorem St14.put (s : St14 K H H' p A D' bs ps own) (e : H' l = some (.lst c)) (n : ¬ D' l) (q : NewQ H l) (i : ∀ x ∈ own, x.1 ≠ l) : St14 K H (upd H' l (.lst c2)) p A D' bs ps ((l, c2) :: own) :=
  ⟨s.F.keep fun b o hb h => (upd_ne (fun z => n (by rw [← z]; exact hb))).trans h, s.B, s.k.setN q, tabs_put s.T e, fun x hx => by
    rcases List.mem_cons.mp hx with rfl | hx
    · exact ⟨upd_same, n⟩
    · exact ⟨(upd_ne (i x hx)).trans (s.own x hx).1, (s.own x hx).2⟩⟩
theorem newq_none {H : Hp} {l : Addr} (e : H l = none) : NewQ H l := fun o h => by rw [e] at h; cases h
theorem newq_back (s : St14 K H H' p A D' bs ps own) (n : NewQ H' l) (d : ¬ D' l) : NewQ H l := n.back s.k (s.F.ofFoot d)
end
abbrev nlaw : List Str := ["_law_script", "_law_faces", "_law_told", "_law_have", "_law_k", "_law_cell_here", "_law_handed", "_law_face", "_law_other"]
abbrev plaw : List Str := ["_law_script"]
theorem sclaw : FnScope nlaw plaw (defScope slaw) := ⟨rfl, rfl, rfl, by decide +kernel, rfl, by decide +kernel, by decide +kernel⟩
theorem ok_law {P : Program} {w : World} {K : PySem.W.Frag} {mg : Str → Option Value} {base : Heap} (T : Tb w K mg base) {fd : FuncData} (F : FunD K "law" "law" (defArgs slaw) (defBody slaw) (defScope slaw) [] [] (He.ga K "law") fd) :
    FnOk P w K mg base (L2.CX P w) 19 (He.ga K "law") fd plaw (spLaw K) := by
  have GFaces___init__ := ok_Faces___init__ (P := P) (w := w) (base := base) T
  have G_law_like := ok__law_like (P := P) (w := w) (base := base) T 8
  have G_law_nodes := ok__law_nodes (P := P) (w := w) (base := base) T
  have G_law_cell := ok__law_cell (P := P) (w := w) (base := base) T
  have Gneeded := ok_needed (P := P) (w := w) (base := base) T
  have Gpart_kinds := ok_part_kinds (P := P) (w := w) (base := base) T
  have GFaces_turned := ok_Faces_turned (P := P) (w := w) (base := base) T
  have G_law_due := ok__law_due (P := P) (w := w) (base := base) T
  refine F.ok (CX := L2.CX P w) sclaw (by
    intro vs H Q E h
    repeat (first | (obtain ⟨h1, _⟩ := h; subst h1; rfl) | (obtain ⟨_, h⟩ := h))) (fun cdv A outer s H vs Q E hr h => ?_)
  have hu := hu_of hr
  have hu64 := hr.units
  refine ⟨_, (pss_cons (ps_set (i := 1) sclaw.nd rfl (Or.inl rfl) (q_make0 T.kFaces GFaces___init__ (hr.mono (by omega)) T.gFaces passX))
  (pss_cons (ps_set (i := 2) sclaw.nd rfl (Or.inl rfl) (k_ix K (q_call G_law_nodes (hr.mono (by omega)) T.g_law_nodes passX (pa_cons (pv 1) (pa_cons (pe_slice (k_sll K) (pv 0) (po_some pe_int) (po_some pe_int)) pa_nil))) pe_int (fun _ _ => rfl)))
  (pss_cons (ps_set (i := 3) sclaw.nd rfl (Or.inl rfl) (pe_lst pa_nil))
  (pss_cons (ps_for (passes_of rfl) rfl (pi_range1 (by rfl) T.urange (pa_cons (pe_op op_mod (q_call G_law_cell (hr.mono (by omega)) T.g_law_cell passX (pa_cons (pv 0) (pa_cons pe_int pa_nil))) pe_int) pa_nil)) (pg_name (i := 4) sclaw.nd rfl (Or.inl rfl)) (pss_cons (ps_set (i := 5) sclaw.nd rfl (Or.inl rfl) (q_call G_law_cell (hr.mono (by omega)) T.g_law_cell passX (pa_cons (pv 0) (pa_cons (pe_op (k_add K) pe_int (pv 4)) pa_nil))))
  (pss_one (ps_expr (k_bm K PySem.F.plainAttrs_list PySem.F.slot_list_append PySem.F.type_list_append mt_append (pv 3) (pa_cons (q_meth (pv 1) T.cFaces T.mFaces_turned GFaces_turned (hr.mono (by omega)) passX (pa_cons (k_ix K (pv 2) (pe_op op_sub (pe_op op_sub (pe_callB (k_len K) (by rfl) T.ulen (by decide +kernel) (pa_cons (pv 2) pa_nil)) pe_int) (pe_op op_mod (pv 5) (pe_callB (call_min2 rfl) (by rfl) T.umin (by decide +kernel) (pa_cons (pe_callB (k_len K) (by rfl) T.ulen (by decide +kernel) (pa_cons (pv 2) pa_nil)) (pa_cons pe_int pa_nil))))) (fun _ _ => rfl)) (pa_cons (pe_op op_mod (pe_op op_fdivW (pv 5) pe_int) pe_int) pa_nil))) pa_nil))))))
  (pss_cons (ps_if (pt_cmpR (k_eq K hu64) (pe_op op_mod (q_call G_law_cell (hr.mono (by omega)) T.g_law_cell passX (pa_cons (pv 0) (pa_cons pe_int pa_nil))) pe_int) pe_int (nomark _)) (pss_one (ps_set (i := 3) sclaw.nd rfl (Or.inl rfl) (pe_op (k_add K) (pv 3) (pv 3)))) pss_nil)
  (pss_cons (ps_set (i := 6) sclaw.nd rfl (Or.inl rfl) (pe_callTy (k_list K) (by rfl) T.ulist (by decide +kernel) (pa_cons (pv 3) pa_nil)))
  (pss_cons (ps_set (i := 7) sclaw.nd rfl (Or.inl rfl) (k_ix K (pv 2) (pe_un un_neg pe_int) (fun _ _ => rfl)))
  (pss_cons (ps_if (PW.pt (pw_or (pt_not (pt_val (q_call G_law_like (hr.mono (by omega)) T.g_law_like passX (pa_cons (q_call Gneeded (hr.mono (by omega)) T.gneeded passX (pa_cons (pv 1) (pa_cons (pv 7) (pa_cons (pv 6) pa_nil)))) (pa_cons (q_call G_law_due (hr.mono (by omega)) T.g_law_due passX (pa_cons (pv 1) (pa_cons (pv 7) (pa_cons (pv 3) pa_nil)))) pa_nil))))) (pw_or1 (pt_cmpR (k_ne K hu64) (pv 6) (pv 3) (nomark _))))) (pss_one (ps_ret pe_bl)) pss_nil)
  (pss_cons (ps_expr (k_bm0 K PySem.F.plainAttrs_list PySem.F.slot_list_clear PySem.F.type_list_clear mt_clear (q_call Gneeded (hr.mono (by omega)) T.gneeded passX (pa_cons (pv 1) (pa_cons (pv 7) (pa_cons (pv 3) pa_nil))))))
  (pss_cons (ps_if (pt_not (pt_val (q_call G_law_like (hr.mono (by omega)) T.g_law_like passX (pa_cons (q_call Gneeded (hr.mono (by omega)) T.gneeded passX (pa_cons (pv 1) (pa_cons (pv 7) (pa_cons (pv 3) pa_nil)))) (pa_cons (q_call G_law_due (hr.mono (by omega)) T.g_law_due passX (pa_cons (pv 1) (pa_cons (pv 7) (pa_cons (pv 3) pa_nil)))) pa_nil))))) (pss_one (ps_ret pe_bl)) pss_nil)
  (pss_cons (ps_set (i := 8) sclaw.nd rfl (Or.inl rfl) (k_ix K (pv 2) (pe_op op_fdivW (pe_callB (k_len K) (by rfl) T.ulen (by decide +kernel) (pa_cons (pv 2) pa_nil)) pe_int) (fun _ _ => rfl)))
  (pss_cons (ps_if (pt_not (pt_val (q_call G_law_like (hr.mono (by omega)) T.g_law_like passX (pa_cons (q_call Gneeded (hr.mono (by omega)) T.gneeded passX (pa_cons (pv 1) (pa_cons (pv 8) (pa_cons (pv 3) pa_nil)))) (pa_cons (q_call G_law_due (hr.mono (by omega)) T.g_law_due passX (pa_cons (pv 1) (pa_cons (pv 8) (pa_cons (pv 3) pa_nil)))) pa_nil))))) (pss_one (ps_ret pe_bl)) pss_nil)
  (pss_one (ps_ret (q_call G_law_like (hr.mono (by omega)) T.g_law_like passX (pa_cons (q_call Gneeded (hr.mono (by omega)) T.gneeded passX (pa_cons (pv 1) (pa_cons (pv 7) (pa_cons (pe_lst pa_nil) pa_nil)))) (pa_cons (q_call Gpart_kinds (hr.mono (by omega)) T.gpart_kinds passX (pa_cons (pv 1) (pa_cons (pv 7) pa_nil))) pa_nil))))))))))))))))), ?_⟩
  try dsimp only [cxOf]
  obtain ⟨a, ns, rfl, hs, hlen, hbits, hT0, q⟩ := h
  walk_at "z"
  refine z_mkFaces fun H1 p A D0 s1 hF0 hD0 => ?_
  walk_at "z"
  obtain ⟨ms, ecut, hml⟩ := cut_6_20 hlen
  refine z_slL (s1.seq hs) ecut ?_
  walk_at "zn"
  rename_i l hl0 H2 s2 f2
  walk_at "z"
  refine ⟨p, A, D0, l, ms, rfl, hF0.same s2, f2, hF0.nd hl0, by omega, fun H3 r nl dl tl D3 ps Ps nds kp3 fr3 hr st3 hPl hfr => ?_⟩
  have foot0 : ∀ b, A.foot b → H b = none := fun b hb => hD0 b (hF0.df b hb)
  have s02 := s1.trans s2
  have T0 : LamX.Tabs (tT K) H := fun x hx => by
    rw [List.mem_singleton.mp hx]
    exact LamX.TabS.nil hT0
  have S3 : St14 K H H3 p A D3 Ps ps [(tl, Ps.map fun P => V.int (ix ps P : Nat))] :=
    ⟨st3.F, st3.base, (KN.of s02.keep).trans (KN.of kp3), tabs_keep (T0.ext fun b o e => s02 _ _ e) (hF0.same s2) kp3, fun x hx => by rw [List.mem_singleton.mp hx]; exact ⟨st3.td, st3.nt⟩⟩
  have hten := st3.ten
  refine z_ixT (SqT.of hr) (atI_of (n := 2) rfl rfl) ?_
  walk_at "z"
  walk_at "zt"
  rename_i lv nlv H4 s4 flv
  have S4 := (S3.same s4).add flv (st3.F.nd nlv)
  have hlvH : NewQ H lv := newq_back S3 (newq_none nlv) (st3.F.nd nlv)
  have dtl : tl ≠ lv := ne_of_none st3.td nlv
  clear S3
  walk_at "z"
  refine ⟨a, ns, 0, rfl, sql_of hs foot0 _ S4.k, ?_⟩
  walk_at "z"
  refine z_I (by decide) ?_
  walk_at "z"
  have c0 := Int.emod_nonneg (cell ns 0) (show (5 : Int) ≠ 0 by decide)
  have c5 := Int.emod_lt_of_pos (cell ns 0) (show (0 : Int) < 5 by decide)
  generalize cell ns 0 % 5 = c at c0 c5 ⊢
  refine ⟨_, rfl, by omega, by omega, ?_⟩
  refine for_range (lo := 0) (n := c.toNat) (fun i σ H' => ∃ D' qs hs x4 x5, σ = [some (.ref a), some (.ref p), some (.ref tl), some (.ref lv), x4, x5, none, none, none] ∧ St14 K H H' p A D' Ps (ps ++ qs) [(lv, hs.map V.int), (tl, Ps.map fun P => V.int (ix ps P : Nat))] ∧ hs.length ≤ i ∧ ∀ n ∈ hs, ∃ Y, IsF (ps ++ qs) n Y)
    ⟨D3, [], [], _, _, rfl, by rw [List.append_nil]; exact S4, Nat.zero_le _, by simp⟩ ?_ ?_
  · rintro i σ H5 hi ⟨D5, qs, hl, x4, x5, rfl, S5, hll, hY⟩
    have hi4 : i < 4 := by omega
    walk_at "z"
    refine ⟨a, ns, 1 + i, by rw [show (1 : Int) + (0 + (i : Nat)) = ((1 + i : Nat) : Int) by omega]; rfl, sql_of hs foot0 _ S5.k, ?_⟩
    generalize cell ns (1 + i) = cc
    obtain ⟨flv5, nlv5⟩ := S5.own (lv, hl.map V.int) (by simp)
    obtain ⟨ftl5, ntl5⟩ := S5.own (tl, Ps.map fun P => V.int (ix ps P : Nat)) (by simp)
    walk_at "z"
    refine z_tyL (SqL.of flv5) ?_
    obtain ⟨dx5, ob5⟩ := S5.F.ob
    walk_at "z"
    refine z_methR ob5 noFaces_turned ?_
    walk_at "z"
    refine z_lenL (SqL.of ftl5) ?_
    walk_at "z"
    refine z_lenL (SqL.of ftl5) ?_
    walk_at "z"
    refine ⟨_, _, rfl, ?_⟩
    rw [List.length_map]
    have m0 : 0 < (if (6 : Int) < ((Ps.length : Nat) : Int) then (6 : Int) else ((Ps.length : Nat) : Int)) := by split <;> omega
    have m1 : (if (6 : Int) < ((Ps.length : Nat) : Int) then (6 : Int) else ((Ps.length : Nat) : Int)) ≤ ((Ps.length : Nat) : Int) := by split <;> omega
    generalize (if (6 : Int) < ((Ps.length : Nat) : Int) then (6 : Int) else ((Ps.length : Nat) : Int)) = mm at m0 m1 ⊢
    refine z_I m0 ?_
    walk_at "z"
    have g0 := Int.emod_nonneg cc (show mm ≠ 0 by omega)
    have g1 := Int.emod_lt_of_pos cc m0
    obtain ⟨n, en⟩ : ∃ n : Nat, ((Ps.length : Nat) : Int) - 1 - cc % mm = (n : Int) := ⟨(((Ps.length : Nat) : Int) - 1 - cc % mm).toNat, by omega⟩
    have hn : n < Ps.length := by omega
    rw [en]
    have hPm : Ps[n]? = some (Ps[n]'hn) := List.getElem?_eq_getElem hn
    generalize Ps[n]'hn = P at hPm
    have hf : IsF (ps ++ qs) (ix ps P : Nat) P := (IsF.ix (st3.mem P (List.mem_of_getElem? hPm))).app
    refine z_ixL (SqL.of ftl5) (atI_of (n := n) (by show (Ps.map _)[n]? = _; rw [List.getElem?_map, hPm]; rfl) rfl) ?_
    walk_at "z"
    refine z_I (divW (by decide) (by decide)) ?_
    walk_at "z"
    refine z_I (by decide) ?_
    walk_at "z"
    have t0 := Int.emod_nonneg (cc / 7) (show (8 : Int) ≠ 0 by decide)
    have t8 := Int.emod_lt_of_pos (cc / 7) (show (0 : Int) < 8 by decide)
    refine ⟨p, A, D5, _, Ps, _, cc / 7 % 8, rfl, S5.F, S5.B, by omega, fun no => absurd ⟨hf.1, hf.lt⟩ no, fun P2 hP2 => ⟨fun no => absurd ⟨by omega, by omega⟩ no, fun _ q2 B6 H6 D6 kp6 F6 u6 d6 hm6 => ?_⟩⟩
    have S6 := S5.after F6 B6 kp6 d6
    obtain ⟨flv6, nlv6⟩ := S6.own (lv, hl.map V.int) (by simp)
    walk_at "z"
    refine z_app flv6 (szlt (by rw [List.length_map]; omega)) ?_
    have S7 := (S6.sub (own2 := [(tl, Ps.map fun P => V.int (ix ps P : Nat))]) (by simp)).put (c2 := hl.map V.int ++ [V.int (ix (ps ++ qs ++ q2) (P2.turn (cc / 7 % 8)) : Nat)]) flv6 nlv6 hlvH (fun x hx => by rw [List.mem_singleton.mp hx]; exact dtl)
    walk_at "z"
    rw [List.append_assoc] at S7 ⊢
    refine ⟨D6, qs ++ q2, hl ++ [((ix (ps ++ (qs ++ q2)) (P2.turn (cc / 7 % 8)) : Nat) : Int)], _, _, rfl, by rw [List.map_append]; exact S7, by simp; omega, fun n hn => ?_⟩
    rcases List.mem_append.mp hn with z | z
    · obtain ⟨Y, hY⟩ := hY n z
      rw [← List.append_assoc]
      exact ⟨Y, hY.app⟩
    · rw [List.mem_singleton.mp z, ← List.append_assoc]
      exact ⟨_, IsF.ix hm6⟩
  · rintro σ H5 ⟨D5, qs, hl, x4, x5, rfl, S5, hll, hY⟩
    walk_at "y"
    refine z_joinIfK (R := fun σ' H' => ∃ (lw : Addr) (hl : List Int), σ' = [some (.ref a), some (.ref p), some (.ref tl), some (.ref lw), x4, x5, none, none, none] ∧ St14 K H H' p A D5 Ps (ps ++ qs) [(lw, hl.map V.int), (tl, Ps.map fun P => V.int (ix ps P : Nat))] ∧ hl.length ≤ 8 ∧ ∀ n ∈ hl, ∃ Y, IsF (ps ++ qs) n Y) (fun D' k rt => ?_) ?_
    · walk_at "z"
      refine ⟨a, ns, 5, rfl, sql_of hs foot0 _ S5.k, ?_⟩
      walk_at "z"
      refine z_I (by decide) ?_
      walk_at "z"
      refine z_ite (fun _ => ?_) (fun _ => ?_)
      · obtain ⟨flv5, nlv5⟩ := S5.own (lv, hl.map V.int) (by simp)
        walk_at "z"
        refine z_addL flv5 flv5 (sz1000 (by rw [List.length_map]; omega)) ?_
        walk_at "zn"
        rename_i lw nlw H6 s6 flw
        walk_at "z"
        rw [← List.map_append] at flw
        exact k _ _ ⟨lw, hl ++ hl, rfl, ((S5.same s6).add flw (S5.F.nd nlw)).sub (fun x hx => by simp at hx ⊢; rcases hx with h | h <;> simp [h]), by simp; omega, fun n hn => (List.mem_append.mp hn).elim (hY n) (hY n)⟩
      · walk_at "z"
        exact k _ _ ⟨lv, hl, rfl, S5, by omega, hY⟩
    clear S5 hll hY hlvH
    rintro σ' H6 ⟨lw, hl, rfl, S6, hll, hY⟩
    obtain ⟨flw, nlw⟩ := S6.own (lw, hl.map V.int) (by simp)
    obtain ⟨ftl, ntl⟩ := S6.own (tl, Ps.map fun P => V.int (ix ps P : Nat)) (by simp)
    walk_at "z"
    refine z_listL (SqL.of flw) ?_
    walk_at "zn"
    rename_i lh nlh H7 s7 flh
    have S7 := (S6.same s7).add flh (S6.F.nd nlh)
    walk_at "z"
    obtain ⟨Pl, P, ePs⟩ := snoc_of (l := Ps) (by omega)
    have hPm : P ∈ Ps := by rw [ePs]; simp
    have hf0 : IsF (ps ++ qs) (ix ps P : Nat) P := (IsF.ix (st3.mem P hPm)).app
    refine z_ixL (SqL.of (s7 _ _ ftl)) (by rw [ePs, List.map_append]; exact atI_last _ _) ?_
    walk_at "z"
    obtain ⟨fN1, nN1⟩ := S7.own (lh, hl.map V.int) (by simp)
    refine ⟨p, A, D5, _, Ps, _, lh, hl, P, rfl, S7.F, S7.B, by omega, hf0, fN1, S7.F.ofFoot nN1, by omega, hY, S7.T, fun Ha1 Da1 qa1 ka1 ra1 Fa1 Ba1 kka1 da1 Ta1 ipa1 nqa1 nDa1 fa1 => ?_⟩
    have Sa1 := (S7.next Fa1 Ba1 kka1 da1 Ta1).add fa1 nDa1
    obtain ⟨fD1, nD1⟩ := Sa1.own (lw, hl.map V.int) (by simp)
    walk_at "z"
    refine ⟨p, A, Da1, _, Ps, _, lw, hl, P, rfl, Sa1.F, Sa1.B, by omega, hf0.app, fD1, nD1, by omega, (fun n hn => let ⟨Y, h⟩ := hY n hn; ⟨Y, h.app⟩), fun Hb1 Db1 qb1 kb1 rb1 nb1 ipb1 nqb1 nDb1 fb1 => ?_⟩
    rw [hadP_app hY] at ipb1
    rw [parts_eq Sa1.F.inv.nd ipa1 ipb1] at fb1
    have Sb1 := Sa1.after nb1.F nb1.B nb1.kp nb1.d
    have ga1 := (Sb1.own (ra1, _) List.mem_cons_self).1
    walk_at "z"
    refine ⟨_, _, .list ((sortK _ ka1).map .int), rfl, .lst ga1 (DvAll.ints _), .lst fb1 (DvAll.ints _), by simp only [dpt, dptI]; decide, fun Hc1 sc1 => ?_⟩
    have Sc1 := (Sb1.sub (own2 := [(lh, hl.map V.int), (lw, hl.map V.int), (tl, Ps.map fun P => V.int (ix ps P : Nat))]) (fun x hx => List.mem_cons_of_mem _ hx)).same sc1
    have hf1 := (hf0.app (qs := qa1)).app (qs := qb1)
    have hY1 : ∀ n ∈ hl, ∃ Y, IsF (_ ++ qa1 ++ qb1) n Y := fun n hn => let ⟨Y, h⟩ := hY n hn; ⟨Y, (h.app (qs := qa1)).app (qs := qb1)⟩
    have gh := (Sc1.own (lh, hl.map V.int) (by simp)).1
    have gw := (Sc1.own (lw, hl.map V.int) (by simp)).1
    walk_at "z"
    refine z_neSame (d := .list (hl.map PyData.int)) (.lst gh (DvAll.ints _)) (.lst gw (DvAll.ints _)) (shaped_ints _) (eqv_ints _) ?_
    walk_at "z"
    obtain ⟨fN2, nN2⟩ := Sc1.own (lw, hl.map V.int) (by simp)
    refine ⟨p, A, Db1, _, Ps, _, lw, hl, P, rfl, Sc1.F, Sc1.B, by omega, hf1, fN2, Sc1.F.ofFoot nN2, by omega, hY1, Sc1.T, fun Ha2 Da2 qa2 ka2 ra2 Fa2 Ba2 kka2 da2 Ta2 ipa2 nqa2 nDa2 fa2 => ?_⟩
    have Sa2 := Sc1.next Fa2 Ba2 kka2 da2 Ta2
    walk_at "z"
    refine z_tyL (SqL.of fa2) ?_
    refine ⟨ra2, _, rfl, rfl, fa2, ?_⟩
    have S8 := (Sa2.put (c2 := []) fa2 nDa2 (nqa2.back Sc1.k (Fa2.ofFoot nDa2)) (fun x hx => nqa2.ne (Sc1.own x hx).1 fun t z => by cases z)).sub (own2 := [(lh, hl.map V.int), (lw, hl.map V.int), (tl, Ps.map fun P => V.int (ix ps P : Nat))]) (fun x hx => List.mem_cons_of_mem _ hx)
    have hf8 := hf1.app (qs := qa2)
    have hY8 : ∀ n ∈ hl, ∃ Y, IsF (_ ++ qa2) n Y := fun n hn => let ⟨Y, h⟩ := hY1 n hn; ⟨Y, h.app (qs := qa2)⟩
    walk_at "z"
    obtain ⟨fN3, nN3⟩ := S8.own (lw, hl.map V.int) (by simp)
    refine ⟨p, A, Da2, _, Ps, _, lw, hl, P, rfl, S8.F, S8.B, by omega, hf8, fN3, S8.F.ofFoot nN3, by omega, hY8, S8.T, fun Ha3 Da3 qa3 ka3 ra3 Fa3 Ba3 kka3 da3 Ta3 ipa3 nqa3 nDa3 fa3 => ?_⟩
    have Sa3 := (S8.next Fa3 Ba3 kka3 da3 Ta3).add fa3 nDa3
    obtain ⟨fD3, nD3⟩ := Sa3.own (lw, hl.map V.int) (by simp)
    walk_at "z"
    refine ⟨p, A, Da3, _, Ps, _, lw, hl, P, rfl, Sa3.F, Sa3.B, by omega, hf8.app, fD3, nD3, by omega, (fun n hn => let ⟨Y, h⟩ := hY8 n hn; ⟨Y, h.app⟩), fun Hb3 Db3 qb3 kb3 rb3 nb3 ipb3 nqb3 nDb3 fb3 => ?_⟩
    rw [hadP_app hY8] at ipb3
    rw [parts_eq Sa3.F.inv.nd ipa3 ipb3] at fb3
    have Sb3 := Sa3.after nb3.F nb3.B nb3.kp nb3.d
    have ga3 := (Sb3.own (ra3, _) List.mem_cons_self).1
    walk_at "z"
    refine ⟨_, _, .list ((sortK _ ka3).map .int), rfl, .lst ga3 (DvAll.ints _), .lst fb3 (DvAll.ints _), by simp only [dpt, dptI]; decide, fun Hc3 sc3 => ?_⟩
    have Sc3 := (Sb3.sub (own2 := [(lh, hl.map V.int), (lw, hl.map V.int), (tl, Ps.map fun P => V.int (ix ps P : Nat))]) (fun x hx => List.mem_cons_of_mem _ hx)).same sc3
    have hf3 := (hf8.app (qs := qa3)).app (qs := qb3)
    have hY3 : ∀ n ∈ hl, ∃ Y, IsF (_ ++ qa3 ++ qb3) n Y := fun n hn => let ⟨Y, h⟩ := hY8 n hn; ⟨Y, (h.app (qs := qa3)).app (qs := qb3)⟩
    walk_at "z"
    have gt3 := (Sc3.own (tl, Ps.map fun P => V.int (ix ps P : Nat)) (by simp)).1
    refine z_lenL (SqL.of gt3) ?_
    rw [List.length_map]
    walk_at "z"
    refine z_I (divW (by decide) (by decide)) ?_
    walk_at "z"
    obtain ⟨n, en⟩ : ∃ n : Nat, ((Ps.length : Nat) : Int) / 2 = (n : Int) := ⟨Ps.length / 2, by omega⟩
    have hn : n < Ps.length := by omega
    rw [en]
    have hOm : Ps[n]? = some (Ps[n]'hn) := List.getElem?_eq_getElem hn
    generalize Ps[n]'hn = O at hOm
    have hO := (((((((IsF.ix (st3.mem O (List.mem_of_getElem? hOm))).app (qs := qs)).app (qs := qa1)).app (qs := qb1)).app (qs := qa2)).app (qs := qa3)).app (qs := qb3))
    refine z_ixL (SqL.of gt3) (atI_of (n := n) (by show (Ps.map _)[n]? = _; rw [List.getElem?_map, hOm]; rfl) rfl) ?_
    walk_at "z"
    obtain ⟨fN4, nN4⟩ := Sc3.own (lw, hl.map V.int) (by simp)
    refine ⟨p, A, Db3, _, Ps, _, lw, hl, O, rfl, Sc3.F, Sc3.B, by omega, hO, fN4, Sc3.F.ofFoot nN4, by omega, hY3, Sc3.T, fun Ha4 Da4 qa4 ka4 ra4 Fa4 Ba4 kka4 da4 Ta4 ipa4 nqa4 nDa4 fa4 => ?_⟩
    have Sa4 := (Sc3.next Fa4 Ba4 kka4 da4 Ta4).add fa4 nDa4
    obtain ⟨fD4, nD4⟩ := Sa4.own (lw, hl.map V.int) (by simp)
    walk_at "z"
    refine ⟨p, A, Da4, _, Ps, _, lw, hl, O, rfl, Sa4.F, Sa4.B, by omega, hO.app, fD4, nD4, by omega, (fun n hn => let ⟨Y, h⟩ := hY3 n hn; ⟨Y, h.app⟩), fun Hb4 Db4 qb4 kb4 rb4 nb4 ipb4 nqb4 nDb4 fb4 => ?_⟩
    rw [hadP_app hY3] at ipb4
    rw [parts_eq Sa4.F.inv.nd ipa4 ipb4] at fb4
    have Sb4 := Sa4.after nb4.F nb4.B nb4.kp nb4.d
    have ga4 := (Sb4.own (ra4, _) List.mem_cons_self).1
    walk_at "z"
    refine ⟨_, _, .list ((sortK _ ka4).map .int), rfl, .lst ga4 (DvAll.ints _), .lst fb4 (DvAll.ints _), by simp only [dpt, dptI]; decide, fun Hc4 sc4 => ?_⟩
    have Sc4 := (Sb4.sub (own2 := [(lh, hl.map V.int), (lw, hl.map V.int), (tl, Ps.map fun P => V.int (ix ps P : Nat))]) (fun x hx => List.mem_cons_of_mem _ hx)).same sc4
    have hf4 := (hO.app (qs := qa4)).app (qs := qb4)
    have hY4 : ∀ n ∈ hl, ∃ Y, IsF (_ ++ qa4 ++ qb4) n Y := fun n hn => let ⟨Y, h⟩ := hY3 n hn; ⟨Y, (h.app (qs := qa4)).app (qs := qb4)⟩
    have hf5 := (hf3.app (qs := qa4)).app (qs := qb4)
    walk_at "z"
    walk_at "zt"
    rename_i l0 nl0 HX sX fl0
    have S9 := Sc4.same sX
    walk_at "z"
    refine ⟨p, A, Db4, _, Ps, _, l0, [], P, rfl, S9.F, S9.B, by omega, hf5, fl0, S9.F.ofFoot (Sc4.F.nd nl0), by decide, by simp, S9.T, fun Ha Da qa ka ra Fa Ba kka da Ta ipa nqa nDa fa => ?_⟩
    have Sa := (S9.next Fa Ba kka da Ta).add fa nDa
    walk_at "z"
    refine ⟨p, A, Da, _, Ps, _, P, rfl, Sa.F, Sa.B, by omega, hf5.app, Sa.T, fun Hb Db qb kb rb Fb Bb kkb db Tb ipb nqb nDb fb => ?_⟩
    rw [hadP_nil] at ipa ipb
    rw [parts_eq Sa.F.inv.nd ipa ipb] at fb
    have Sb := Sa.next Fb Bb kkb db Tb
    have ga := (Sb.own (ra, _) List.mem_cons_self).1
    walk_at "z"
    refine ⟨_, _, .list ((sortK _ ka).map .int), rfl, .lst ga (DvAll.ints _), .lst fb (DvAll.ints _), by simp only [dpt, dptI]; decide, fun Hc sc => ?_⟩
    walk_at "z"
    exact q _
theorem law_walk : PySem.W.WalkO (PySem.W.view hR.prog [28]) hloose (PySem.W.XL (PySem.W.view hR.prog [28]) []) hk.says PySem.Challenge.rw_murrine_k14_needed_beside_some.row.toRowW (HandSHeadRun.topDef hR.prog 28) [] (fun f vs => PySem.call f vs) := by
  refine Att.attach_callB (l := PySem.Challenge.rw_murrine_k14_needed_beside_some) (n := 63) rfl (by kernel_rfl) fun w s₀ s₁ mg mb fa o pm cd doc a vs ns G Y ho hd hcd hmg0 hobj hints hlen hbits hg => ?_
  obtain ⟨K, KX, c⟩ := Y
  have T : Tx w K mg := tx_of KX G.T.g c.t.d
  have hmg : mg ("law" : Str) = some (.ref fa) := by
    have e : (HandSHeadRun.topDef hR.prog 28).name = ("law" : Str) := by kernel_rfl
    rw [← e]
    exact hmg0
  have ef : fa = He.ga K "law" := Value.ref.inj (Option.some.inj (hmg.symm.trans T.glaw))
  subst ef
  obtain ⟨fd, F⟩ := T.flaw
  have hb : ∀ (s : Shared) (v : Value), BindsTo s fd ⟨[v], []⟩ [("_law_script", v)] := fun s v => FunD.bindsA (ps := ["_law_script"]) F (fun _ _ _ _ _ _ us hl => match us, hl with | [_], _ => rfl) s [v] rfl
  refine LamX.law_callTs (cs := hTf.map (He.cT K)) KX G.T.g G.T.b G.T.builtins G.T.nolimit hg (fun p hp => ?_) (fun p hp => ?_) (fun p hp => ?_) G.T.bmain hobj hints (Nat.le_trans hlen (by decide)) (k := 19) (CX := L2.CX PySem.Challenge.rw_murrine_k14_needed_beside_some.prog w) (sp := spLaw K) ⟨rfl, by decide, by decide⟩ (fun base b1 b2 b3 => ok_law ⟨T, b3 _ (List.mem_map.mpr ⟨("sorted_kinds", none), by decide, rfl⟩)⟩ F) hb (fun H hH hS => ⟨a, ns, rfl, hS, hlen, hbits, hH _ (List.mem_map.mpr ⟨("sorted_kinds", none), by decide, rfl⟩), fun _ => rfl⟩) (fun H e s' h => ?_)
  · obtain ⟨q, hq, rfl⟩ := List.mem_map.mp hp
    exact c.empty q hq
  · obtain ⟨q, hq, rfl⟩ := List.mem_map.mp hp
    exact c.out q hq
  · obtain ⟨q, hq, rfl⟩ := List.mem_map.mp hp
    exact PySem.W.codeHd_of_K KX (c.hd q hq)
  obtain ⟨_, _, _, _, _, _, _, _, _, _, _, _, z⟩ := h
  exact z
end Mur
open PySem PySem.W PySem.Calls PyProof.Rows
theorem PySem.Challenge.cw_murrine_k14_needed_beside_some_holds : PySem.Challenge.rw_murrine_k14_needed_beside_some.Holds := by
  w_on; o_law
  refine HandSHeadRun.head_any (r := OpenLaw.row PySem.Challenge.rw_murrine_k14_needed_beside_some) (q := view (OpenLaw.row PySem.Challenge.rw_murrine_k14_needed_beside_some).prog [28]) (H := Mur.hk) (ob := Mur.hob) (M := 8000) (loose := Mur.hloose) (d := HandSHeadRun.topDef (OpenLaw.row PySem.Challenge.rw_murrine_k14_needed_beside_some).prog 28) (kwd := []) Mur.hob_eq
    (by kernel_rfl) (fun s => by kernel_rfl) Mur.hrun (by kernel_rfl) (by kernel_rfl) (by kernel_rfl) (by rfl) (by first | assumption | decide +kernel) (by decide +kernel) ⟨rfl, rfl, rfl, rfl, rfl, by decide +kernel⟩ ?hw ?hc
  case hw => w_witness2
  case hc => exact Mur.law_walk
#print axioms PySem.Challenge.cw_murrine_k14_needed_beside_some_holds
