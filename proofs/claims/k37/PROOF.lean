import PyProof.Rows.All
import Wide.All
import OpenK.AllK
import Wide.FinOn
import KE.KStateDown
import Lean
import HandS.ForMost
import HandS.ForExc
import HandS.TryMany
import HandS.Defaults
import HandS.EndBits
import HandS.IsInst
import HandS.Style
import HandS.Zip
import HandS.Walk
import HandS.TupAny
import HandS.WideBits
import HandS.Wide
import HandS.Head0
import HandS.Head1
import HandS.Head2
import HandS.HeadEnd
import HandS.HeadHook1
import HandS.HeadHook2
import KE.GoesRaise
import HandS.More
import PyProof.MeetsDict
import OpenK.KTop
import KE.KAssignIn
import HandS.RaiseMore
import HandS.Nested
import HandS.NestedK
import HandS.SortKw
import KE.SortKeyHeap
import HandS.HeadHook4
import HandS.EndTab
import HandS.ExcInit
import HandS.ExcField
import KE.GoesEnumKw
import KE.GoesEnum
import PyProof.EnumIter
import PyProof.Draws
import PySem.Challenge.RW_murrine_k37_whole_pages_are_read
set_option Elab.async false
set_option linter.all false
set_option maxRecDepth 100000
set_option maxHeartbeats 4000000
/-! Own words over the hand layer: a def with its promise (Fk), its calls; readings step by step (z_*). -/
namespace Mur
open PySem hiding start
open PySem.Spec L2
open PyProof.Rows hiding St

/-! ### a def of the text that keeps its promise -/
structure Fk (P : Program) (w : World) (K : PySem.W.Frag) (mg : Str → Option Value) (base : Heap) (k : Nat) (f : Addr) (ps : List Str) (sp : Sp) : Prop where
  ex : ∃ fd, FnOk P w K mg base (L2.CX P w) k f fd ps sp ∧ Binds K fd ps []
  kp : PySem.W.keepIn K (.ref f) = true
section
variable {P : Program} {w : World} {K : PySem.W.Frag} {mg : Str → Option Value} {base : Heap} {k : Nat} {f : Addr} {ps : List Str} {sp : Sp}
theorem Fk.up {j : Nat} (G : Fk P w K mg base k f ps sp) (h : k ≤ j) : Fk P w K mg base j f ps sp :=
  let ⟨fd, a, b⟩ := G.ex; ⟨⟨fd, a.mono h, b⟩, G.kp⟩
theorem Fk.mk' {x qual : Str} {params : Arguments} {body : List Stmt} {scope : Scope} {N : List Str} (F : ∃ fd, FunD K x qual params body scope [] [] f fd) (S : FnScope N ps scope)
    (hb : ∀ (kV doc pm : Value) (an : Option Addr) (cdv ct : Value) (us : List Value), us.length = ps.length → bindArgs (PySem.W.fnOf x qual params body scope .none kV doc pm an cdv ct) ⟨us, []⟩ = pure (ps.zip us))
    (len : ∀ vs H Q E, sp vs H Q E → vs.length = ps.length)
    (hbody : ∀ (cdv : Value) (A : Around) (outer : List Env) (s : Shared) (H : Hp) (vs : List V) (Q : VK) (E : XK), Room k (A.deeper (envOfC qual scope s.heap.objs.size f cdv)) → sp vs H Q E →
      ∃ t, PSs (cxOf (L2.CX P w) P w K mg base N qual scope f cdv A outer s H E) body t ∧ t { nx := fun _ H' => Q .non H', rt := Q } (start N vs) H) : Fk P w K mg base (k + 1) f ps sp := by
  obtain ⟨fd, F⟩ := F
  exact ⟨⟨fd, F.ok (CX := L2.CX P w) S len hbody, F.bindsN hb⟩, F.kp⟩
end
section
variable {X : Cx} {k : Nat} {f C : Addr} {ps : List Str} {sp : Sp} {E : XK} {x m : Str} {p pos apos : Pos} {e o : Expr} {es : List Expr} {ta : TE} {t : TA}
theorem q_call (G : Fk X.prog X.w X.K X.mg X.base k f ps sp) (hr : Room k X.A) (hm : X.mg x = some (.ref f)) (hx : Passes (L2.CX X.prog X.w) X E) (ha : PA X (e :: es) t) (hg : Gl X x := by rfl)
    (hdb : (x == ("__debug__" : Str)) = false := by decide) (he : starEach (e :: es) X.env = (false, eval e X.env) :: starEach es X.env := by rfl) (hpl : (backTo pos (starEach es X.env)).any (·.1) = false := by rfl) :
    PE X (.Call (.Name x p) (e :: es) [] pos) (tCall sp [] E t) := by
  obtain ⟨fd, F, B⟩ := G.ex
  exact pe_call F hr hg hm G.kp B .nil hx ha hdb he hpl
theorem q_call0 (G : Fk X.prog X.w X.K X.mg X.base k f ps sp) (hr : Room k X.A) (hm : X.mg x = some (.ref f)) (hx : Passes (L2.CX X.prog X.w) X E) (hg : Gl X x := by rfl)
    (hdb : (x == ("__debug__" : Str)) = false := by decide) : PE X (.Call (.Name x p) [] [] pos) (tCall sp [] E tNil) := by
  obtain ⟨fd, F, B⟩ := G.ex
  exact pe_call0 F hr hg hm G.kp B .nil hx hdb
theorem q_callS {E : St → XK} (G : Fk X.prog X.w X.K X.mg X.base k f ps sp) (hr : Room k X.A) (hm : X.mg x = some (.ref f)) (hx : ∀ σ, PassesAt (L2.CX X.prog X.w) X σ (E σ)) (ha : PA X (e :: es) t) (hg : Gl X x := by rfl)
    (hdb : (x == ("__debug__" : Str)) = false := by decide) (he : starEach (e :: es) X.env = (false, eval e X.env) :: starEach es X.env := by rfl) (hpl : (backTo pos (starEach es X.env)).any (·.1) = false := by rfl) :
    PE X (.Call (.Name x p) (e :: es) [] pos) (tCallS sp E t) := by
  obtain ⟨fd, F, B⟩ := G.ex
  exact pe_callS F hr hg hm G.kp B hx ha hdb he hpl
end
section
variable {X : Cx} {k : Nat} {f C : Addr} {ps : List Str} {sp : Sp} {E : XK} {x m : Str} {p pos apos : Pos} {e o : Expr} {es : List Expr} {ta : TE} {t : TA}
theorem q_meth {pl : Sem Bool} (he : PE X o ta) (c : Cls X.K C) (hm : Meth X.K C m f) (G : Fk X.prog X.w X.K X.mg X.base k f ps sp) (hr : Room k X.A) (hx : Passes (L2.CX X.prog X.w) X E) (ha : PA X (e :: es) t)
    (hst : starEach (e :: es) X.env = (false, eval e X.env) :: starEach es X.env := by rfl) (hpl : (backTo pos (starEach es X.env)).any (·.1) = false := by rfl)
    (ht : eval (.Call (.Attribute o m apos) (e :: es) [] pos) X.env = (do
      let ov ← eval o X.env
      standAt apos.atName
      let (f, first) ← holding [ov] (getMethod ov m pl)
      callWith pos f first (backTo pos (starEach (e :: es) X.env)) (backToKw pos (keywordEach [] X.env))) := by rfl) :
    PE X (.Call (.Attribute o m apos) (e :: es) [] pos) (tMeth C m sp [] E ta t) := by
  obtain ⟨fd, F, B⟩ := G.ex
  exact pe_meth he c hm F hr B .nil hx ha hst hpl ht
theorem q_meth0 {pl : Sem Bool} (he : PE X o ta) (c : Cls X.K C) (hm : Meth X.K C m f) (G : Fk X.prog X.w X.K X.mg X.base k f ps sp) (hr : Room k X.A) (hx : Passes (L2.CX X.prog X.w) X E)
    (ht : eval (.Call (.Attribute o m apos) [] [] pos) X.env = (do
      let ov ← eval o X.env
      standAt apos.atName
      let (f, first) ← holding [ov] (getMethod ov m pl)
      callWith pos f first (backTo pos (starEach [] X.env)) (backToKw pos (keywordEach [] X.env))) := by rfl) :
    PE X (.Call (.Attribute o m apos) [] [] pos) (tMeth C m sp [] E ta tNil) := by
  obtain ⟨fd, F, B⟩ := G.ex
  exact pe_meth0 he c hm F hr B .nil hx ht
/-- within a try: what is raised is wished for at the slots -/
def tMethSl (C : Addr) (m : Str) (sp : Sp) (E : L2.St → XK) (ta : TE) (t : TA) : TE := fun σ H Q => ta σ H fun x H1 => ∃ a dx fs, x = .ref a ∧ H1 a = some (.ins C dx fs) ∧ fs.lookup m = none ∧
  t σ H1 fun vs H2 => sp (x :: vs) H2 Q (E σ)
theorem q_methS {E : L2.St → XK} {pl : Sem Bool} (he : PE X o ta) (c : Cls X.K C) (hm : Meth X.K C m f) (G : Fk X.prog X.w X.K X.mg X.base k f ps sp) (hr : Room k X.A) (hx : ∀ σ, PassesAt (L2.CX X.prog X.w) X σ (E σ)) (ha : PA X (e :: es) t)
    (hst : starEach (e :: es) X.env = (false, eval e X.env) :: starEach es X.env := by rfl) (hpl : (backTo pos (starEach es X.env)).any (·.1) = false := by rfl)
    (ht : eval (.Call (.Attribute o m apos) (e :: es) [] pos) X.env = (do
      let ov ← eval o X.env
      standAt apos.atName
      let (f, first) ← holding [ov] (getMethod ov m pl)
      callWith pos f first (backTo pos (starEach (e :: es) X.env)) (backToKw pos (keywordEach [] X.env))) := by rfl) :
    PE X (.Call (.Attribute o m apos) (e :: es) [] pos) (tMethSl C m sp E ta t) := by
  obtain ⟨fd, F, B⟩ := G.ex
  refine ⟨fun pins s σ H Q I h => ?_⟩
  refine PySem.W.methodCall_KW (pl := pl) (thn (he.run pins s σ H _ I h) fun u s1 ⟨x, H1, I1, rx, a, dx, fs, ex, ea, l, q⟩ => ?_) ht
  subst ex
  obtain rfl : u = Value.ref a := rx
  refine getmeth_ok I1 ea c hm l ?_
  exact PySem.W.callWith_K (first := [.ref a]) (h₀ := X.base) I.ok.mod.kin hm.kp (thn (ha.run pos pins s1 σ H1 _ I1 q) fun us s2 ⟨vs, H2, I2, r, q2⟩ => ⟨I2.kIn, run_fnS (us := .ref a :: us) (vs := .ref a :: vs) F hr B (hx σ) I2 (.cons rfl r) q2⟩) hst hpl
theorem q_meth0S {E : L2.St → XK} {pl : Sem Bool} (he : PE X o ta) (c : Cls X.K C) (hm : Meth X.K C m f) (G : Fk X.prog X.w X.K X.mg X.base k f ps sp) (hr : Room k X.A) (hx : ∀ σ, PassesAt (L2.CX X.prog X.w) X σ (E σ))
    (ht : eval (.Call (.Attribute o m apos) [] [] pos) X.env = (do
      let ov ← eval o X.env
      standAt apos.atName
      let (f, first) ← holding [ov] (getMethod ov m pl)
      callWith pos f first (backTo pos (starEach [] X.env)) (backToKw pos (keywordEach [] X.env))) := by rfl) :
    PE X (.Call (.Attribute o m apos) [] [] pos) (tMethSl C m sp E ta tNil) := by
  obtain ⟨fd, F, B⟩ := G.ex
  refine ⟨fun pins s σ H Q I h => ?_⟩
  refine PySem.W.methodCall_KW (pl := pl) (thn (he.run pins s σ H _ I h) fun u s1 ⟨x, H1, I1, rx, a, dx, fs, ex, ea, l, q⟩ => ?_) ht
  subst ex
  obtain rfl : u = Value.ref a := rx
  refine getmeth_ok I1 ea c hm l ?_
  exact PySem.W.callWith_K0 (first := [.ref a]) I1.kIn hm.kp (run_fnS (us := [.ref a]) (vs := [.ref a]) F hr B (hx σ) I1 (.cons rfl .nil) q)
theorem q_make (M : Mk X.K C f) (G : Fk X.prog X.w X.K X.mg X.base k f ps sp) (hr : Room (k + 1) X.A) (hm : X.mg x = some (.ref C)) (hx : Passes (L2.CX X.prog X.w) X E) (ha : PA X (e :: es) t) (hg : Gl X x := by rfl)
    (hdb : (x == ("__debug__" : Str)) = false := by decide) (he : starEach (e :: es) X.env = (false, eval e X.env) :: starEach es X.env := by rfl) (hpl : (backTo pos (starEach es X.env)).any (·.1) = false := by rfl) :
    PE X (.Call (.Name x p) (e :: es) [] pos) (tMake C sp [] E t) := by
  obtain ⟨fd, F, B⟩ := G.ex
  exact pe_make M F hr hg hm B .nil hx ha hdb he hpl
theorem q_make0 (M : Mk X.K C f) (G : Fk X.prog X.w X.K X.mg X.base k f ps sp) (hr : Room (k + 1) X.A) (hm : X.mg x = some (.ref C)) (hx : Passes (L2.CX X.prog X.w) X E) (hg : Gl X x := by rfl)
    (hdb : (x == ("__debug__" : Str)) = false := by decide) : PE X (.Call (.Name x p) [] [] pos) (tMake C sp [] E tNil) := by
  obtain ⟨fd, F, B⟩ := G.ex
  exact pe_make0 M F hr hg hm B .nil hx hdb
end
/-- what a callee raises leaves the def's own body -/
theorem passX {P : Program} {w : World} {K : PySem.W.Frag} {mg : Str → Option Value} {base : Heap} {N : List Str} {qual : Str} {scope : Scope} {f : Addr} {cd : Value} {A : Around} {outer : List Env} {s : Shared} {H : Hp} {E : XK} :
    Passes (L2.CX P w) (cxOf (L2.CX P w) P w K mg base N qual scope f cd A outer s H E) E := passes_call (takes_of rfl rfl rfl rfl) fun _ _ _ _ h => h
theorem takesX {P : Program} {w : World} {K : PySem.W.Frag} {mg : Str → Option Value} {base : Heap} {N : List Str} {qual : Str} {scope : Scope} {f : Addr} {cd : Value} {A : Around} {outer : List Env} {s : Shared} {H : Hp} {E : XK} :
    Takes (cxOf (L2.CX P w) P w K mg base N qual scope f cd A outer s H E) (fun cls d _ H => E cls d H) := takes_of rfl rfl rfl rfl
/-- a global int -/
theorem q_int {X : Cx} {x : Str} {i : Int} {pos : Pos} (hm : ∃ t, X.mg x = some (.int i t)) (hg : Gl X x := by rfl) (hd : (x == ("__debug__" : Str)) = false := by decide) : PE X (.Name x pos) (tC (.int i)) := by
  obtain ⟨t, e⟩ := hm
  exact pe_glob hg e ⟨_, rfl⟩ hd
theorem q_txt {X : Cx} {x z : Str} {pos : Pos} (hm : ∃ t, X.mg x = some (.str z t)) (hg : Gl X x := by rfl) (hd : (x == ("__debug__" : Str)) = false := by decide) : PE X (.Name x pos) (tC (.str z)) := by
  obtain ⟨t, e⟩ := hm
  exact pe_glob hg e ⟨_, rfl⟩ hd

/-! ### operators of several kinds -/
def rIsX : R2 := fun x y H Q => (y = .non ∨ ∃ b, y = .bl b) ∧ Q (.bl (decide (x = y))) H
def rNotX : R2 := fun x y H Q => (y = .non ∨ ∃ b, y = .bl b) ∧ Q (.bl (!decide (x = y))) H
theorem op_isX {X : Cx} : OpR X (compareOp .Is) rIsX := by
  intro pins s σ H x y v u Q I rx ry h
  obtain ⟨rfl | ⟨b, rfl⟩, q⟩ := h
  · exact op_isN pins s σ H x .non v u Q I rx ry ⟨rfl, q⟩
  · cases x with
    | bl a =>
      refine op_isBl pins s σ H (.bl a) (.bl b) v u Q I rx ry ⟨a, b, rfl, rfl, ?_⟩
      have e : decide (V.bl a = V.bl b) = decide (a = b) := by by_cases h : a = b <;> simp [h]
      rw [e] at q
      exact q
    | non => cases (show u = Value.bool b from ry); cases (show v = Value.none from rx); exact wpAny_pure (fin_bl I q rfl)
    | ref a => cases (show u = Value.bool b from ry); cases (show v = Value.ref a from rx); exact wpAny_pure (fin_bl I q rfl)
    | ty n => cases (show u = Value.bool b from ry); cases (show v = Value.type n from rx); exact wpAny_pure (fin_bl I q rfl)
    | int i => cases (show u = Value.bool b from ry); obtain ⟨t, rfl⟩ := rx; exact wpAny_pure (fin_bl I q rfl)
    | str i => cases (show u = Value.bool b from ry); obtain ⟨t, rfl⟩ := rx; exact wpAny_pure (fin_bl I q rfl)
    | byt i => cases (show u = Value.bool b from ry); obtain ⟨t, rfl⟩ := rx; exact wpAny_pure (fin_bl I q rfl)
    | flt i => cases (show u = Value.bool b from ry); obtain ⟨t, rfl⟩ := rx; exact wpAny_pure (fin_bl I q rfl)
/-- +: ints, texts, lists, tuples -/
def rAddU (K : PySem.W.Frag) : R2 := fun x y H Q => rI0 (fun i j => .int (i + j)) x y H Q ∨ (∃ i j, x = .str i ∧ y = .str j ∧ i.length + j.length ≤ sizeLine ∧ Q (.str (i ++ j)) H) ∨ rCat x y H Q ∨ rCatA K x y H Q
theorem op_addU {X : Cx} : OpR X (binaryOp .Add) (rAddU X.K) := op_add.or (op_add_str.or (op_cat.or op_catA))
/-- *: ints of any size that matters, a list times an int -/
def rMulU : R2 := fun x y H Q => rI CMulX (fun i j => .int (i * j)) x y H Q ∨ rRep x y H Q
theorem op_mulU {X : Cx} : OpR X (binaryOp .Mult) rMulU := op_mulX.or op_rep
abbrev rSubI : R2 := rI0 fun i j => .int (i - j)
abbrev rDivI : R2 := rI CDivW fun i j => .int (i / j)
abbrev rModI : R2 := rI (fun _ j => 0 < j) fun i j => .int (i % j)
abbrev rShlI : R2 := rI CPow fun i j => .int (i * 2 ^ j.toNat)
abbrev rPowI : R2 := rI CPow fun i j => .int (i ^ j.toNat)
/-- ==: scalars, or data at any depth -/
def rEqU (K : PySem.W.Frag) : R2 := fun x y H Q => rEq x y H Q ∨ rEqD K x y H Q
def rNeU (K : PySem.W.Frag) : R2 := fun x y H Q => rNe x y H Q ∨ rNeD K x y H Q
theorem op_eqU {X : Cx} (hu : X.A.units + 64 < cLine) : OpR X (compareOp .Eq) (rEqU X.K) := op_eq.or (op_eqD hu)
theorem op_neU {X : Cx} (hu : X.A.units + 64 < cLine) : OpR X (compareOp .NotEq) (rNeU X.K) := op_ne.or (op_neD hu)

/-! ### slots -/
inductive StartAt : List Str → List V → St → Prop where
  | val {x : Str} {N : List Str} {v : V} {vs : List V} {σ : St} : StartAt N vs σ → StartAt (x :: N) (v :: vs) (some v :: σ)
  | non {x : Str} {N : List Str} {σ : St} : StartAt N [] σ → StartAt (x :: N) [] (none :: σ)
  | nil : StartAt [] [] []
theorem StartAt.eq : ∀ {N : List Str} {vs : List V} {σ : St}, StartAt N vs σ → start N vs = σ
  | _, _, _, .val h => by
    have e := h.eq
    unfold start at e ⊢
    simp only [List.map_cons, List.length_cons, List.cons_append, Nat.add_sub_add_right, e]
  | _, _, _, .non h => by
    have e := h.eq
    unfold start at e ⊢
    simp only [List.map_nil, List.length_cons, List.length_nil, Nat.sub_zero, List.nil_append, List.replicate_succ] at e ⊢
    rw [e]
  | _, _, _, .nil => rfl
theorem z_start {N : List Str} {vs : List V} {σ : St} {t : TS} {D : Ends} {H : Hp} (e : StartAt N vs σ) (k : t D σ H) : t D (start N vs) H := by rw [e.eq]; exact k
inductive SetAt : St → Nat → Option V → St → Prop where
  | zero {a v : Option V} {l : St} : SetAt (a :: l) 0 v (v :: l)
  | succ {a v : Option V} {l l' : St} {n : Nat} : SetAt l n v l' → SetAt (a :: l) (n + 1) v (a :: l')
theorem SetAt.eq : ∀ {l l' : St} {n : Nat} {v : Option V}, SetAt l n v l' → l.set n v = l'
  | _, _, _, _, .zero => rfl
  | _, _, _, _, .succ h => by rw [List.set_cons_succ, h.eq]
section
variable {K : PySem.W.Frag} {σ σ' : St} {H : Hp} {Q : VK} {ta tb tc te : TE} {v x y : V} {D : Ends} {ts tu : TS} {TQ : Bool → Hp → Prop} {tt tt2 : TT} {GQ : St → Hp → Prop}
/-! ### statements -/
theorem z_seq (h : ts { D with nx := tu D } σ H) : tSeq ts tu D σ H := h
theorem z_next (h : D.nx σ H) : tNext D σ H := h
theorem z_drop (h : te σ H fun _ H1 => D.nx σ H1) : tDrop te D σ H := h
theorem z_ret (h : te σ H D.rt) : tRet te D σ H := h
theorem z_retN (h : D.rt .non H) : tRetN D σ H := h
theorem z_asg {g : TG} (h : te σ H fun x H1 => g x σ H1 D.nx) : tAsg te g D σ H := h
theorem z_name {i : Nat} (e : SetAt σ i (some v) σ') (k : GQ σ' H) : gName i v σ H GQ := by
  show GQ (σ.set i (some v)) H
  rw [e.eq]; exact k
theorem z_if (h : tt σ H fun b H1 => if b = true then ts D σ H1 else tu D σ H1) : tIfS tt ts tu D σ H := h
theorem z_par {i j : Nat} {t : TA} (h : t σ H fun vs H1 => ∃ v w, vs = [v, w] ∧ D.nx ((σ.set i (some v)).set j (some w)) H1) : tPar i j t D σ H := h
theorem z_par2 {i j : Nat} {v w : V} {σ1 σ2 : St} (e1 : SetAt σ i (some v) σ1) (e2 : SetAt σ1 j (some w) σ2) (k : D.nx σ2 H) : ∃ v' w', [v, w] = [v', w'] ∧ D.nx ((σ.set i (some v')).set j (some w')) H :=
  ⟨v, w, rfl, by rw [e1.eq, e2.eq]; exact k⟩
/-! ### tests -/
theorem z_tTest (h : te σ H fun x H' => ∃ k, x = .bl k ∧ TQ k H') : tTest te σ H TQ := h
theorem z_tB (h : te σ H fun x H' => ∃ k, x = .bl k ∧ TQ k H') : tB te σ H TQ := h
theorem z_bl {b : Bool} (h : TQ b H) : ∃ k, V.bl b = .bl k ∧ TQ k H := ⟨b, rfl, h⟩
theorem z_and (h : tt σ H fun c H1 => if c = true then tt2 σ H1 TQ else TQ false H1) : tAnd tt tt2 σ H TQ := h
theorem z_or (h : tt σ H fun c H1 => if c = true then TQ true H1 else tt2 σ H1 TQ) : tOr tt tt2 σ H TQ := h
theorem z_not (h : tt σ H fun c H1 => TQ (!c) H1) : tNot tt σ H TQ := h
theorem z_ite {c A B : Prop} [Decidable c] (h1 : c → A) (h2 : ¬ c → B) : if decide c = true then A else B := by
  by_cases h : c
  · rw [if_pos (decide_eq_true h)]; exact h1 h
  · rw [if_neg (by rw [decide_eq_false h]; exact Bool.false_ne_true)]; exact h2 h
theorem z_iteN {c A B : Prop} [Decidable c] (h1 : ¬ c → A) (h2 : c → B) : if (!decide c) = true then A else B := by
  by_cases h : c
  · rw [decide_eq_true h]; exact iteF (h2 h)
  · rw [decide_eq_false h]; exact iteT (h1 h)
theorem z_yes {c A B : Prop} [Decidable c] (hc : c) (h : A) : if decide c = true then A else B := by rw [if_pos (decide_eq_true hc)]; exact h
theorem z_no {c A B : Prop} [Decidable c] (hc : ¬ c) (h : B) : if decide c = true then A else B := by rw [decide_eq_false hc]; exact iteF h
theorem z_yesN {c A B : Prop} [Decidable c] (hc : ¬ c) (h : A) : if (!decide c) = true then A else B := by rw [decide_eq_false hc]; exact iteT h
theorem z_noN {c A B : Prop} [Decidable c] (hc : c) (h : B) : if (!decide c) = true then A else B := by rw [decide_eq_true hc]; exact iteF h
theorem z_nnot {b : Bool} {A B : Prop} (h : if b = true then B else A) : if (!b) = true then A else B := by
  cases b
  · exact iteT (by simpa using h)
  · exact iteF (by simpa using h)
/-! ### expressions -/
theorem z_var {i : Nat} (e : σ[i]? = some (some v)) (k : Q v H) : tVar i σ H Q := ⟨v, e, k⟩
theorem z_c (k : Q v H) : tC v σ H Q := k
theorem z_op {r : R2} (h : ta σ H fun x H1 => tb σ H1 fun y H2 => r x y H2 Q) : tOp r ta tb σ H Q := h
theorem z_un {r : V → Hp → VK → Prop} (h : ta σ H fun x H1 => r x H1 Q) : tUn r ta σ H Q := h
theorem z_andV (h : ta σ H fun x H1 => ∃ c, x = .bl c ∧ if c = true then tb σ H1 Q else Q (.bl false) H1) : tAndV ta tb σ H Q := h
theorem z_orV (h : ta σ H fun x H1 => ∃ c, x = .bl c ∧ if c = true then Q (.bl true) H1 else tb σ H1 Q) : tOrV ta tb σ H Q := h
theorem z_notV (h : ta σ H fun x H1 => ∃ c, x = .bl c ∧ Q (.bl (!c)) H1) : tNotV ta σ H Q := h
theorem z_ifE (h : tt σ H fun c H1 => if c = true then ta σ H1 Q else tb σ H1 Q) : tIf tt ta tb σ H Q := h
theorem z_blQ {b : Bool} {R : Bool → Prop} (h : R b) : ∃ c, V.bl b = .bl c ∧ R c := ⟨b, rfl, h⟩
theorem z_cons {tr : TA} {AQ : List V → Hp → Prop} (h : ta σ H fun x H1 => tr σ H1 fun xs H2 => AQ (x :: xs) H2) : tCons ta tr σ H AQ := h
theorem z_nil {AQ : List V → Hp → Prop} (h : AQ [] H) : tNil σ H AQ := h
theorem z_tup {t : TA} (h : t σ H fun xs H1 => xs.length ≤ sizeLine ∧ ∀ p, H1 p = none → Q (.ref p) (upd H1 p (.tup xs))) : tTup t σ H Q := h
theorem z_lst {t : TA} (h : t σ H fun xs H1 => xs.length ≤ sizeLine ∧ ∀ p, H1 p = none → Q (.ref p) (upd H1 p (.lst xs))) : tLst t σ H Q := h
theorem z_call {sp : Sp} {E : XK} {t : TA} (h : t σ H fun vs H1 => sp (vs ++ []) H1 Q E) : tCall sp [] E t σ H Q := h
theorem z_callS {sp : Sp} {E : St → XK} {t : TA} (h : t σ H fun vs H1 => sp vs H1 Q (E σ)) : tCallS sp E t σ H Q := h
theorem z_cb {r : List V → Hp → VK → Prop} {t : TA} (h : t σ H fun vs H1 => r vs H1 Q) : tCB r t σ H Q := h
theorem z_chain {r r' : R2} (h : ta σ H fun x H1 => tb σ H1 fun y H2 => r x y H2 fun z H3 => ∃ k, z = .bl k ∧ (if k = true then tc σ H3 fun z' H4 => r' y z' H4 Q else Q (.bl false) H3)) : tChain r r' ta tb tc σ H Q := h
/-! ### operators on values -/
theorem z_I0 {g : Int → Int → V} {i j : Int} (k : Q (g i j) H) : rI0 g (.int i) (.int j) H Q := ⟨i, j, rfl, rfl, k⟩
theorem z_I {C : Int → Int → Prop} {g : Int → Int → V} {i j : Int} (c : C i j) (k : Q (g i j) H) : rI C g (.int i) (.int j) H Q := ⟨i, j, rfl, rfl, c, k⟩
theorem z_U {g : Int → V} {i : Int} (k : Q (g i) H) : rU g (.int i) H Q := ⟨i, rfl, k⟩
theorem z_addI {i j : Int} (k : Q (.int (i + j)) H) : rAddU K (.int i) (.int j) H Q := .inl ⟨i, j, rfl, rfl, k⟩
theorem z_addS {i j : Str} (c : i.length + j.length ≤ sizeLine) (k : Q (.str (i ++ j)) H) : rAddU K (.str i) (.str j) H Q := .inr (.inl ⟨i, j, rfl, rfl, c, k⟩)
theorem z_addL {a b : Addr} {xs zs : List V} (h1 : H a = some (.lst xs)) (h2 : H b = some (.lst zs)) (c : xs.length + zs.length ≤ sizeLine) (k : ∀ p, H p = none → Q (.ref p) (upd H p (.lst (xs ++ zs)))) : rAddU K (.ref a) (.ref b) H Q :=
  .inr (.inr (.inl ⟨a, b, xs, zs, rfl, rfl, h1, h2, c, k⟩))
theorem z_mulI {i j : Int} (c : CMulX i j) (k : Q (.int (i * j)) H) : rMulU (.int i) (.int j) H Q := .inl ⟨i, j, rfl, rfl, c, k⟩
theorem z_mulL {l : Addr} {n : Int} {xs : List V} (h : H l = some (.lst xs)) (c1 : 0 ≤ n) (c2 : n < 2 ^ 62) (c3 : xs.length * n.toNat ≤ sizeLine) (k : ∀ p, H p = none → Q (.ref p) (upd H p (.lst (List.replicate n.toNat xs).flatten))) : rMulU (.ref l) (.int n) H Q :=
  .inr ⟨l, n, xs, rfl, rfl, h, by omega, by omega, c3, k⟩
theorem z_eqI {i j : Int} (k : Q (.bl (decide (i = j))) H) : rEqU K (.int i) (.int j) H Q := .inl ⟨rfl, by
  have e : decide (V.int i = V.int j) = decide (i = j) := by by_cases h : i = j <;> simp [h]
  rw [e]; exact k⟩
theorem z_neI {i j : Int} (k : Q (.bl (!decide (i = j))) H) : rNeU K (.int i) (.int j) H Q := .inl ⟨rfl, by
  have e : decide (V.int i = V.int j) = decide (i = j) := by by_cases h : i = j <;> simp [h]
  rw [e]; exact k⟩
theorem z_eqS {i j : Str} (k : Q (.bl (decide (i = j))) H) : rEqU K (.str i) (.str j) H Q := .inl ⟨rfl, by
  have e : decide (V.str i = V.str j) = decide (i = j) := by by_cases h : i = j <;> simp [h]
  rw [e]; exact k⟩
theorem z_neS {i j : Str} (k : Q (.bl (!decide (i = j))) H) : rNeU K (.str i) (.str j) H Q := .inl ⟨rfl, by
  have e : decide (V.str i = V.str j) = decide (i = j) := by by_cases h : i = j <;> simp [h]
  rw [e]; exact k⟩
theorem z_isN (k : Q (.bl (decide (x = .non))) H) : rIsX x .non H Q := ⟨.inl rfl, k⟩
theorem z_isB {b : Bool} (k : Q (.bl (decide (x = .bl b))) H) : rIsX x (.bl b) H Q := ⟨.inr ⟨b, rfl⟩, k⟩
end
end Mur
/-! Data in the heap (Dv) that stays; isinstance by kinds. -/
namespace Mur
open PySem hiding start
open PySem.Spec L2
open PyProof.Rows hiding St
theorem _root_.L2.Same.new {H : Hp} {p : Addr} {o : HO} (h : H p = none) : Same H (upd H p o) := fun a u e => by
  rw [upd_ne (ne_of_none e h)]; exact e
theorem _root_.L2.Same.set {H H' : Hp} {p : Addr} {o : HO} (e : Same H H') (h : H p = none) : Same H (upd H' p o) := fun a u q => by
  rw [upd_ne (ne_of_none q h)]; exact e a u q
theorem _root_.L2.Same.tup {K : PySem.W.Frag} {H H' : Hp} {a : Addr} {xs : List V} (e : Same H H') (h : SqT K H a xs) : SqT K H' a xs := by
  rcases h with (h | ⟨o, h⟩) | h
  · exact .inl (.inl (e _ _ h))
  · exact .inl (.inr ⟨o, e _ _ h⟩)
  · exact .inr h
mutual
inductive Dv (H : Hp) : V → PyData → Prop
  | non : Dv H .non .none
  | bl (b : Bool) : Dv H (.bl b) (.bool b)
  | int (i : Int) : Dv H (.int i) (.int i)
  | str (x : Str) : Dv H (.str x) (.str x)
  | lst {a : Addr} {xs : List V} {ds : List PyData} : H a = some (.lst xs) → DvAll H xs ds → Dv H (.ref a) (.list ds)
  | tup {a : Addr} {xs : List V} {ds : List PyData} : H a = some (.tup xs) → DvAll H xs ds → Dv H (.ref a) (.tuple ds)
inductive DvAll (H : Hp) : List V → List PyData → Prop
  | nil : DvAll H [] []
  | cons {v : V} {vs : List V} {d : PyData} {ds : List PyData} : Dv H v d → DvAll H vs ds → DvAll H (v :: vs) (d :: ds)
end
mutual
theorem dv_same {H H' : Hp} (e : Same H H') : ∀ {d : PyData} {v : V}, Dv H v d → Dv H' v d
  | _, _, .non => .non
  | _, _, .bl b => .bl b
  | _, _, .int i => .int i
  | _, _, .str x => .str x
  | _, _, .lst h a => .lst (e _ _ h) (dvAll_same e a)
  | _, _, .tup h a => .tup (e _ _ h) (dvAll_same e a)
theorem dvAll_same {H H' : Hp} (e : Same H H') : ∀ {ds : List PyData} {vs : List V}, DvAll H vs ds → DvAll H' vs ds
  | _, _, .nil => .nil
  | _, _, .cons h t => .cons (dv_same e h) (dvAll_same e t)
end
mutual
theorem Dv.dp {K : PySem.W.Frag} {H : Hp} : ∀ {d : PyData} {v : V}, Dv H v d → Dp K H v d
  | _, _, .non => .non
  | _, _, .bl b => .bl b
  | _, _, .int i => .int i
  | _, _, .str x => .str x
  | _, _, .lst h a => .lst (SqL.of h) (DvAll.dp a)
  | _, _, .tup h a => .tup (SqT.of h) (DvAll.dp a)
theorem DvAll.dp {K : PySem.W.Frag} {H : Hp} : ∀ {ds : List PyData} {vs : List V}, DvAll H vs ds → DpAll K H vs ds
  | _, _, .nil => .nil
  | _, _, .cons h t => .cons (Dv.dp h) (DvAll.dp t)
end
theorem DvAll.len {H : Hp} : ∀ {ds : List PyData} {vs : List V}, DvAll H vs ds → vs.length = ds.length
  | _, _, .nil => rfl
  | _, _, .cons _ t => by simp [t.len]
theorem DvAll.get {H : Hp} : ∀ {ds : List PyData} {vs : List V} {i : Nat} {v : V}, DvAll H vs ds → vs[i]? = some v → ∃ d, ds[i]? = some d ∧ Dv H v d
  | _, _, _, _, .nil, e => by simp at e
  | _, _, 0, _, .cons h _, e => by simp at e; subst e; exact ⟨_, rfl, h⟩
  | _, _, i + 1, v, .cons _ t, e => by
    obtain ⟨d, h1, h2⟩ := DvAll.get (i := i) (v := v) t (by simpa using e)
    exact ⟨d, by simpa using h1, h2⟩
theorem DvAll.ints {H : Hp} : ∀ ns : List Int, DvAll H (ns.map V.int) (ns.map PyData.int)
  | [] => .nil
  | n :: ns => .cons (.int n) (DvAll.ints ns)
/-! how deep data are: scalars 0 -/
mutual
def dpt : PyData → Nat
  | .list ds => dptAll ds + 1
  | .tuple ds => dptAll ds + 1
  | _ => 0
def dptAll : List PyData → Nat
  | [] => 0
  | d :: ds => max (dpt d) (dptAll ds)
end
theorem dpt_mem : ∀ {ds : List PyData} {i : Nat} {d : PyData}, ds[i]? = some d → dpt d ≤ dptAll ds
  | [], i, d, e => by simp at e
  | x :: ds, 0, d, e => by simp at e; subst e; simp only [dptAll]; omega
  | x :: ds, i + 1, d, e => by
    have := dpt_mem (ds := ds) (i := i) (d := d) (by simpa using e)
    simp only [dptAll]; omega
/-! ### isinstance -/
def tyD : PyData → String
  | .none => "NoneType"
  | .bool _ => "bool"
  | .int _ => "int"
  | .str _ => "str"
  | .list _ => "list"
  | .tuple _ => "tuple"
  | _ => ""
theorem Dv.ty {K : PySem.W.Frag} {H : Hp} {d : PyData} {v : V} (h : Dv H v d) : TyX K H v (.type (tyD d)) := by
  cases h with
  | non => exact .base .non
  | bl b => exact .base (.bl b)
  | int i => exact .base (.int i)
  | str x => exact .base (.str x)
  | lst h _ => exact .base (.lst h)
  | tup h _ => exact .base (.tup h)
theorem z_isi {K : PySem.W.Frag} {H : Hp} {Q : VK} {x : V} {a n : String} {b : Bool} (ty : TyX K H x (.type a)) (e : kitB a n = some b) (k : Q (.bl b) H) : rIsi K [x, .ty n] H Q := ⟨x, .ty n, .type a, .type n, b, rfl, .ty n, ty, kit_ty e, k⟩
section
variable {K : PySem.W.Frag} {H : Hp} {Q : VK} {n : String} {a : Addr} {xs : List V}
theorem z_isI {i : Int} (b : Bool) (e : kitB "int" n = some b) (k : Q (.bl b) H) : rIsi K [.int i, .ty n] H Q := z_isi (.base (.int i)) e k
theorem z_isNn (b : Bool) (e : kitB "NoneType" n = some b) (k : Q (.bl b) H) : rIsi K [.non, .ty n] H Q := z_isi (.base .non) e k
theorem z_isBl {i : Bool} (b : Bool) (e : kitB "bool" n = some b) (k : Q (.bl b) H) : rIsi K [.bl i, .ty n] H Q := z_isi (.base (.bl i)) e k
theorem z_isS {i : Str} (b : Bool) (e : kitB "str" n = some b) (k : Q (.bl b) H) : rIsi K [.str i, .ty n] H Q := z_isi (.base (.str i)) e k
theorem z_isT (b : Bool) (h : H a = some (.tup xs)) (e : kitB "tuple" n = some b) (k : Q (.bl b) H) : rIsi K [.ref a, .ty n] H Q := z_isi (.base (.tup h)) e k
theorem z_isL (b : Bool) (h : H a = some (.lst xs)) (e : kitB "list" n = some b) (k : Q (.bl b) H) : rIsi K [.ref a, .ty n] H Q := z_isi (.base (.lst h)) e k
end
/-! ### len, items, lists -/
def rLenU (K : PySem.W.Frag) : List V → Hp → VK → Prop := fun xs H Q => ∃ x n, xs = [x] ∧ LenV K x H n ∧ Q (.int n) H
theorem call_lenU {X : Cx} : CallR X (.builtin "len") (rLenU X.K) := call_len
def rLstU (K : PySem.W.Frag) : List V → Hp → VK → Prop := fun xs H Q => ∃ p ys, xs = [.ref p] ∧ (SqL K H p ys ∨ SqT K H p ys) ∧ ∀ l, H l = none → Q (.ref l) (upd H l (.lst ys))
theorem call_listU {X : Cx} : CallR X (.type "list") (rLstU X.K) := call_list_of
def rTupU (K : PySem.W.Frag) : List V → Hp → VK → Prop := fun xs H Q => ∃ p ys, xs = [.ref p] ∧ ((SqL K H p ys ∧ ∀ l, H l = none → Q (.ref l) (upd H l (.tup ys))) ∨ (SqT K H p ys ∧ Q (.ref p) H))
theorem call_tupleU {X : Cx} : CallR X (.type "tuple") (rTupU X.K) := call_tuple_of
def rAbs : List V → Hp → VK → Prop := fun xs H Q => ∃ i, xs = [.int i] ∧ Q (.int (if i < 0 then -i else i)) H
theorem call_absU {X : Cx} : CallR X (.builtin "abs") rAbs := call_abs
def rInt1 : List V → Hp → VK → Prop := fun xs H Q => (∃ i, xs = [.int i] ∧ Q (.int i) H) ∨ ∃ k, xs = [.bl k] ∧ Q (.int (if k then 1 else 0)) H
theorem call_intU {X : Cx} : CallR X (.type "int") rInt1 := call_int1
def rGetL (K : PySem.W.Frag) : R2 := fun x y H Q => ∃ p xs, ∃ n : Nat, ∃ v, x = .ref p ∧ y = .int (n : Int) ∧ SqL K H p xs ∧ xs[n]? = some v ∧ Q v H
theorem get_list {X : Cx} : PGet X (rGetL X.K) := by
  intro pins s σ H x y v u Q I rx ry h
  obtain ⟨p, xs, n, z, rfl, rfl, hp, e, q⟩ := h
  cases (show v = Value.ref p from rx)
  obtain ⟨t, rfl⟩ := ry
  obtain ⟨its, rv, pl, hz⟩ := I.list hp
  obtain ⟨w', hw, rw'⟩ := rv.get e
  have hn := line63
  have hl := (List.getElem?_eq_some_iff.mp e).1
  exact wpAny_getItem_list pl.isList (by omega) (by omega) (by simpa using hw) ⟨z, H, I, rw', q⟩
/-! the rules with the written part named, so that they fit within a comprehension's block, too -/
section
variable {X : Cx} {e o b value : Expr} {es : List Expr} {ta te to tb tv : TE} {t : TA} {f : Str} {pos pos' apos cpos : Pos}
theorem k_fld (K : PySem.W.Frag) (he : PE X e ta) (hb : attributeBase e f X.env (eval e X.env) = eval e X.env) (hK : X.K = K := by rfl) : PE X (.Attribute e f pos) (tFld K ta f) := by subst hK; exact pe_fld he hb
theorem k_sfld (K : PySem.W.Frag) (ha : PE X o ta) (hv : PE X value tv) (hs : swapsWith value (some (.Attribute o f pos')) pos.line X.env = pure false) (hK : X.K = K := by rfl) : PS X (.Assign [.Attribute o f pos'] value pos) (sFld K ta tv f) := by subst hK; exact ps_fld ha hv hs
theorem k_ix (K : PySem.W.Frag) (ha : PE X o ta) (hb : PE X b tb) (hs : PlainIx b) (hK : X.K = K := by rfl) : PE X (.Subscript o b pos) (tOp (rIx K) ta tb) := by subst hK; exact pe_ix ix_seq ha hb hs
theorem k_eq (K : PySem.W.Frag) (hu : X.A.units + 64 < cLine) (hK : X.K = K := by rfl) : OpR X (compareOp .Eq) (rEqU K) := by subst hK; exact op_eqU hu
theorem k_ne (K : PySem.W.Frag) (hu : X.A.units + 64 < cLine) (hK : X.K = K := by rfl) : OpR X (compareOp .NotEq) (rNeU K) := by subst hK; exact op_neU hu
theorem k_add (K : PySem.W.Frag) (hK : X.K = K := by rfl) : OpR X (binaryOp .Add) (rAddU K) := by subst hK; exact op_addU
theorem k_isi (K : PySem.W.Frag) (hK : X.K = K := by rfl) : CallR X (.builtin "isinstance") (rIsi K) := by subst hK; exact call_isi
theorem k_len (K : PySem.W.Frag) (hK : X.K = K := by rfl) : CallR X (.builtin "len") (rLenU K) := by subst hK; exact call_lenU
theorem k_list (K : PySem.W.Frag) (hK : X.K = K := by rfl) : CallR X (.type "list") (rLstU K) := by subst hK; exact call_listU
theorem k_tuple (K : PySem.W.Frag) (hK : X.K = K := by rfl) : CallR X (.type "tuple") (rTupU K) := by subst hK; exact call_tupleU
theorem k_sum (K : PySem.W.Frag) (hc : X.calm = true) (hK : X.K = K := by rfl) : CallR X (.builtin "sum") (rSum K) := by subst hK; exact cr_sum hc
theorem k_max (K : PySem.W.Frag) (hc : X.calm = true) (hK : X.K = K := by rfl) : CallR X (.builtin "max") (rMax K) := by subst hK; exact cr_max hc
theorem k_min (K : PySem.W.Frag) (hc : X.calm = true) (hK : X.K = K := by rfl) : CallR X (.builtin "min") (rMin K) := by subst hK; exact cr_min hc
theorem k_in (K : PySem.W.Frag) (hK : X.K = K := by rfl) : OpR X (compareOp .In) (rIn K false) := by subst hK; exact op_in_seq
theorem k_notin (K : PySem.W.Frag) (hK : X.K = K := by rfl) : OpR X (compareOp .NotIn) (rIn K true) := by subst hK; exact op_notIn_seq
theorem k_sll (K : PySem.W.Frag) (hK : X.K = K := by rfl) : SlR X (rSlL K) := by subst hK; exact sl_list
theorem k_slt (K : PySem.W.Frag) (hK : X.K = K := by rfl) : SlR X (rSlA K) := by subst hK; exact sl_tupA
theorem k_get (K : PySem.W.Frag) (hK : X.K = K := by rfl) : PGet X (rGetL K) := by subst hK; exact get_list
theorem k_pil {tg l : Expr} {tl : TE} (K : PySem.W.Frag) (hl : PE X l tl) (hK : X.K = K := by rfl) : PI X tg l (iList K tl) := by subst hK; exact pi_list hl
theorem k_pit {tg l : Expr} {tl : TE} (K : PySem.W.Frag) (hl : PE X l tl) (hK : X.K = K := by rfl) : PI X tg l (iTup K tl) := by subst hK; exact pi_tup hl
theorem k_pgt {k : Nat} {tt : TGs} {n : Nat} (K : PySem.W.Frag) (hc : X.calm = true) (h : PGs X es tt) (hK : X.K = K := by rfl)
    (hn : (assignEach es X.env).length = n := by rfl) (hst : (assignEach es X.env).findIdx? (·.1) = none := by rfl) : PG X (.Tuple es k pos) (gTup K n tt) := by subst hK; exact pg_tup hc h hn hst
theorem k_enum {p tpos : Pos} {elts : List Expr} {kk : Nat} (K : PySem.W.Frag) (hg : Gl X "enumerate") (hm : X.mg "enumerate" = none) (ha : PA X [e] t) (hK : X.K = K := by rfl) (hs : starEach [e] X.env = [(false, eval e X.env)] := by rfl) :
    PI X (.Tuple elts kk tpos) (.Call (.Name "enumerate" p) [e] [] pos) (iEnum K t) := by subst hK; exact pi_enum hg hm ha hs
theorem k_zip {e2 : Expr} {p tpos : Pos} {elts : List Expr} {kk : Nat} (K : PySem.W.Frag) (hg : Gl X "zip") (hm : X.mg "zip" = none) (ha : PA X [e, e2] t) (hK : X.K = K := by rfl)
    (hs : starEach [e, e2] X.env = (false, eval e X.env) :: starEach [e2] X.env := by rfl) (hpl : (backTo pos (starEach [e2] X.env)).any (·.1) = false := by rfl) :
    PI X (.Tuple elts kk tpos) (.Call (.Name "zip" p) [e, e2] [] pos) (RZ.iZipA K t) := by subst hK; exact RZ.pi_zipA hg hm ha hs hpl
theorem k_bm {T id : String} {name : Str} {r : V → List V → Hp → VK → Prop} (K : PySem.W.Frag) (pa : PlainAttrs T) (slot : Slot T name id) (hty : typeOf (.builtin id) = pure (.type "method_descriptor")) (hm : MtR X id r) (ho : PE X o to) (ha : PA X (e :: es) t) (hK : X.K = K := by rfl)
    (hbase : attributeBase o name X.env (eval o X.env) = eval o X.env := by rfl)
    (hfew : ((backTo cpos (starEach (e :: es) X.env)).all (fun x => !x.1) && (backToKw cpos (keywordEach [] X.env)).all (fun x => x.1.isSome)
      && decide ((e :: es).length + ([] : List Keyword).length + (if ([] : List Keyword).isEmpty then 0 else 1) < 30)) = true := by rfl)
    (hline : (apos.endLine == cpos.line) = true := by rfl) (hs : starEach (e :: es) X.env = (false, eval e X.env) :: starEach es X.env := by rfl) (hplain : (backTo cpos (starEach es X.env)).any (·.1) = false := by rfl) :
    PE X (.Call (.Attribute o name apos) (e :: es) [] cpos) (tBM K T r to t) := by subst hK; exact pe_bm pa slot hty hm ho ha hbase hfew hline hs hplain
theorem k_bm0 {T id : String} {name : Str} {r : V → List V → Hp → VK → Prop} (K : PySem.W.Frag) (pa : PlainAttrs T) (slot : Slot T name id) (hty : typeOf (.builtin id) = pure (.type "method_descriptor")) (hm : MtR X id r) (ho : PE X o to) (hK : X.K = K := by rfl)
    (hbase : attributeBase o name X.env (eval o X.env) = eval o X.env := by rfl) (hline : (apos.endLine == cpos.line) = true := by rfl) : PE X (.Call (.Attribute o name apos) [] [] cpos) (tBM0 K T r to) := by subst hK; exact pe_bm0 pa slot hty hm ho hbase hline
end
section
variable {K : PySem.W.Frag} {H : Hp} {Q : VK} {a l : Addr} {xs : List V} {v y : V} {i : Int}
theorem z_lenL (h : SqL K H a xs) (k : Q (.int (xs.length : Nat)) H) : rLenU K [.ref a] H Q := ⟨.ref a, _, rfl, .inl ⟨_, h, rfl⟩, k⟩
theorem z_lenT (h : SqT K H a xs) (k : Q (.int (xs.length : Nat)) H) : rLenU K [.ref a] H Q := ⟨.ref a, _, rfl, .inr ⟨_, h, rfl⟩, k⟩
theorem z_lenS {z : Str} (h : z.length ≤ sizeLine) (k : Q (.int (z.length : Nat)) H) : rLenU K [.str z] H Q := ⟨.str z, _, rfl, ⟨h, rfl⟩, k⟩
theorem z_listL (h : SqL K H a xs) (k : ∀ l, H l = none → Q (.ref l) (upd H l (.lst xs))) : rLstU K [.ref a] H Q := ⟨a, xs, rfl, .inl h, k⟩
theorem z_listT (h : SqT K H a xs) (k : ∀ l, H l = none → Q (.ref l) (upd H l (.lst xs))) : rLstU K [.ref a] H Q := ⟨a, xs, rfl, .inr h, k⟩
theorem z_tupL (h : SqL K H a xs) (k : ∀ l, H l = none → Q (.ref l) (upd H l (.tup xs))) : rTupU K [.ref a] H Q := ⟨a, xs, rfl, .inl ⟨h, k⟩⟩
theorem z_new {o : HO} (k : ∀ p H2, Same H H2 → H p = none → H2 p = some o → Q (.ref p) H2) : ∀ p, H p = none → Q (.ref p) (upd H p o) := fun p hp => k p _ (Same.new hp) hp upd_same
theorem z_newD {o : HO} {c : Prop} (hc : c) (k : ∀ p H2, Same H H2 → H p = none → H2 p = some o → Q (.ref p) H2) : c ∧ ∀ p, H p = none → Q (.ref p) (upd H p o) := ⟨hc, z_new k⟩
theorem new_same {p : Addr} {o : HO} {H2 : Hp} (hp : H p = none) (e : upd H p o = H2) : Same H H2 := e ▸ Same.new hp
theorem new_at {p : Addr} {o : HO} {H2 : Hp} (e : upd H p o = H2) : H2 p = some o := e ▸ upd_same
theorem same_to {H H' : Hp} {a : Addr} {o : HO} (s : Same H H') (h : H a = some o) : H' a = some o := s _ _ h
theorem z_abs (k : Q (.int (if i < 0 then -i else i)) H) : rAbs [.int i] H Q := ⟨i, rfl, k⟩
theorem z_int1 (k : Q (.int i) H) : rInt1 [.int i] H Q := .inl ⟨i, rfl, k⟩
theorem z_intB {b : Bool} (k : Q (.int (if b then 1 else 0)) H) : rInt1 [.bl b] H Q := .inr ⟨b, rfl, k⟩
theorem z_ixL (h : SqL K H a xs) (e : atI xs i = some v) (k : Q v H) : rIx K (.ref a) (.int i) H Q := .inl ⟨a, xs, i, v, rfl, rfl, h, e, k⟩
theorem z_ixT (h : SqT K H a xs) (e : atI xs i = some v) (k : Q v H) : rIx K (.ref a) (.int i) H Q := .inr (.inl ⟨a, xs, i, v, rfl, rfl, h, e, k⟩)
theorem z_tyL {B : Prop} (h : SqL K H a xs) (k : B) : tyV K "list" (.ref a) H ∧ B := ⟨.inl ⟨rfl, _, h⟩, k⟩
theorem z_bm {T : String} {r : V → List V → Hp → VK → Prop} {to : TE} {t : TA} {σ : L2.St} (h : to σ H fun x H1 => tyV K T x H1 ∧ t σ H1 fun xs H2 => r x xs H2 Q) : tBM K T r to t σ H Q := h
theorem z_bm0 {T : String} {r : V → List V → Hp → VK → Prop} {to : TE} {σ : L2.St} (h : to σ H fun x H1 => tyV K T x H1 ∧ r x [] H1 Q) : tBM0 K T r to σ H Q := h
theorem z_app (h : H l = some (.lst xs)) (c : xs.length < sizeLine) (k : Q .non (upd H l (.lst (xs ++ [y])))) : rAppend (.ref l) [y] H Q := ⟨l, xs, y, rfl, rfl, h, c, k⟩
theorem atI_of {n : Nat} (h : xs[n]? = some v) (e : i = (n : Int)) : atI xs i = some v := by rw [e]; exact atI_nat h
/-! a method's call, an attribute -/
def rDNi (y : V) : V → Hp → VK → Prop := fun x H Q => ∃ a o, x = .ref a ∧ DGet H a y o ∧ Q (.bl (!o.isSome)) H
def rDIn (y : V) : V → Hp → VK → Prop := fun x H Q => ∃ a o, x = .ref a ∧ DGet H a y o ∧ Q (.bl o.isSome) H
def rDGt (x : V) : V → Hp → VK → Prop := fun y H Q => ∃ a v, x = .ref a ∧ DGet H a y (some v) ∧ Q v H
def rDPt (v x : V) : V → Hp → (Hp → Prop) → Prop := fun y H R => ∃ a H4, x = .ref a ∧ DPut H a y v H4 ∧ R H4
theorem z_dnotin {ty td : TE} {σ : L2.St} (h : ty σ H fun y H1 => td σ H1 fun x H2 => rDNi y x H2 Q) : tDNotIn ty td σ H Q := h
theorem z_din {ty td : TE} {σ : L2.St} (h : ty σ H fun y H1 => td σ H1 fun x H2 => rDIn y x H2 Q) : tDIn ty td σ H Q := h
theorem z_dget {ty td : TE} {σ : L2.St} (h : td σ H fun x H1 => ty σ H1 fun y H2 => rDGt x y H2 Q) : tDGet td ty σ H Q := h
theorem z_dput {ty td tv : TE} {σ : L2.St} {D : Ends} (h : tv σ H fun v H1 => td σ H1 fun x H2 => ty σ H2 fun y H3 => rDPt v x y H3 (D.nx σ)) : sDPut td ty tv D σ H := h
theorem z_dniR {o : Option V} (h : DGet H a y o) (k : Q (.bl (!o.isSome)) H) : rDNi y (.ref a) H Q := ⟨a, o, rfl, h, k⟩
theorem z_dinR {o : Option V} (h : DGet H a y o) (k : Q (.bl o.isSome) H) : rDIn y (.ref a) H Q := ⟨a, o, rfl, h, k⟩
theorem z_dgetR (h : DGet H a y (some v)) (k : Q v H) : rDGt (.ref a) y H Q := ⟨a, v, rfl, h, k⟩
theorem z_dputR {H4 : Hp} {R : Hp → Prop} (h : DPut H a y v H4) (k : R H4) : rDPt v (.ref a) y H R := ⟨a, H4, rfl, h, k⟩
def rFld (K : PySem.W.Frag) (f : Str) : V → Hp → VK → Prop := fun x H Q => ∃ a C dx fs v, x = .ref a ∧ H a = some (.ins C dx fs) ∧ Cls K C ∧ NoAttr K C f ∧ fs.lookup f = some v ∧ Q v H
theorem z_fld {ta : TE} {σ : L2.St} {f : Str} (h : ta σ H fun x H1 => rFld K f x H1 Q) : tFld K ta f σ H Q := h
theorem z_fldR {C dx : Addr} {fs : List (Str × V)} {f : Str} (h : H a = some (.ins C dx fs)) (c : Cls K C) (n : NoAttr K C f) (e : fs.lookup f = some v) (k : Q v H) : rFld K f (.ref a) H Q := ⟨a, C, dx, fs, v, rfl, h, c, n, e, k⟩
def rSfl (K : PySem.W.Frag) (f : Str) (y : V) : V → Hp → (Hp → Prop) → Prop := fun x H R => ∃ a C dx fs, x = .ref a ∧ H a = some (.ins C dx fs) ∧ Cls K C ∧ NoAttr K C f ∧ fs.length < 1000 ∧ R (upd H a (.ins C dx (putF f y fs)))
theorem z_sfld {ta tv : TE} {σ : L2.St} {D : Ends} {f : Str} (h : tv σ H fun y H1 => ta σ H1 fun x H2 => rSfl K f y x H2 (D.nx σ)) : sFld K ta tv f D σ H := h
theorem z_sfldR {C dx : Addr} {fs : List (Str × V)} {f : Str} {y : V} {R : Hp → Prop} {fs' : List (Str × V)} (h : H a = some (.ins C dx fs)) (c : Cls K C) (n : NoAttr K C f) (l : fs.length < 1000) (e : putF f y fs = fs') (k : R (upd H a (.ins C dx fs'))) :
    rSfl K f y (.ref a) H R := ⟨a, C, dx, fs, rfl, h, c, n, l, by rw [e]; exact k⟩
theorem z_dnewT {σ : L2.St} (h : ∀ p, H p = none → Q (.ref p) (upd H p (.dT []))) : tDNewT σ H Q := h
theorem z_dnewK {σ : L2.St} (h : ∀ p, H p = none → Q (.ref p) (upd H p (.dK []))) : tDNewK σ H Q := h
theorem z_meth {C : Addr} {m : Str} {sp : Sp} {E : XK} {ta : TE} {t : TA} {σ : L2.St} (h : ta σ H fun x H1 => ∃ a dx fs, x = .ref a ∧ H1 a = some (.ins C dx fs) ∧ fs.lookup m = none ∧ t σ H1 fun vs H2 => sp (x :: (vs ++ [])) H2 Q E) : tMeth C m sp [] E ta t σ H Q := h
theorem z_methR {C dx : Addr} {m : Str} {fs : List (Str × V)} {R : Prop} (h : H a = some (.ins C dx fs)) (e : fs.lookup m = none) (k : R) : ∃ a' dx fs, V.ref a = .ref a' ∧ H a' = some (.ins C dx fs) ∧ fs.lookup m = none ∧ R := ⟨a, dx, fs, rfl, h, e, k⟩
end
/-! loops, tuple targets -/
section
variable {K : PySem.W.Frag} {σ σ' : L2.St} {H : Hp} {D : Ends} {GQ : L2.St → Hp → Prop}
theorem z_for {wi : TI} {g : TG} {tb : TS} (h : wi σ H fun J H1 => ∃ W : Nat → Nat → L2.St → Hp → Prop, (∃ m, W 0 m σ H1) ∧ ∀ i m σ H, W i m σ H →
  (J.stop i H ∧ D.nx σ H) ∨ (J.go i H ∧ ∃ N : L2.St → Hp → Prop, (∀ σ' H', N σ' H' → ∃ m', m' < m ∧ W (i + 1) m' σ' H') ∧ ∀ x H', J.yld i H x H' → g x σ H' fun σ2 H2 => tb { D with nx := N, ct := N, bk := D.nx } σ2 H2)) : tFor wi g tb D σ H := h
theorem z_zipA {ta : TA} {R : It → Hp → Prop} (h : ta σ H fun vs H1 => ∃ a b xs ys, vs = [.ref a, .ref b] ∧ ((SqL K H1 a xs ∧ SqL K H1 b ys ∧ R (Itz K a b) H1) ∨ (SqT K H1 a xs ∧ SqT K H1 b ys ∧ R (RZ.ItzT K a b) H1))) : RZ.iZipA K ta σ H R := h
theorem z_enum {ta : TA} {R : It → Hp → Prop} (h : ta σ H fun vs H1 => ∃ a xs, vs = [.ref a] ∧ SqL K H1 a xs ∧ R (Ite K a) H1) : iEnum K ta σ H R := h
theorem z_iList {tl : TE} {R : It → Hp → Prop} (h : tl σ H fun x H1 => ∃ a, x = .ref a ∧ (∃ xs, SqL K H1 a xs) ∧ R (Itl K a) H1) : iList K tl σ H R := h
theorem z_iTup {tl : TE} {R : It → Hp → Prop} (h : tl σ H fun x H1 => ∃ a, x = .ref a ∧ (∃ xs, SqT K H1 a xs) ∧ R (Itt K a) H1) : iTup K tl σ H R := h
theorem z_rng1 {ta : TA} {R : It → Hp → Prop} (h : ta σ H fun vs H1 => ∃ j : Int, vs = [.int j] ∧ -(2 ^ 62) ≤ j ∧ j < 2 ^ 62 ∧ R (Itr 0 j.toNat) H1) : iRng1 ta σ H R := h
theorem z_rng2 {ta : TA} {R : It → Hp → Prop} (h : ta σ H fun vs H1 => ∃ i j : Int, vs = [.int i, .int j] ∧ (-(2 ^ 62) ≤ i ∧ i < 2 ^ 62 ∧ -(2 ^ 62) ≤ j ∧ j < 2 ^ 62) ∧ R (Itr i (j - i).toNat) H1) : iRng2 ta σ H R := h
theorem z_gTup {n : Nat} {t : TGs} {a : Addr} {xs : List V} (h : SqT K H a xs) (e : xs.length = n) (k : t xs σ H GQ) : gTup K n t (.ref a) σ H GQ := ⟨a, xs, rfl, h, e, k⟩
theorem z_gCons {t : TG} {u : TGs} {v : V} {r : List V} (k : t v σ H fun σ' H' => u r σ' H' GQ) : gCons t u (v :: r) σ H GQ := ⟨v, r, rfl, k⟩
theorem z_gNil (k : GQ σ H) : gNil [] σ H GQ := ⟨rfl, k⟩
theorem z_lc {wi : TI} {g : TG} {tt : TT} {te : TE} {vs : List Nat} {Q : VK} (h : wi σ H fun J H1 => ∀ D, H1 D = none → ∃ W : Nat → Nat → Hp → Prop, (∃ m, W 0 m (upd H1 D (.lst []))) ∧ ∀ i m H, W i m H →
  (J.stop i H ∧ Q (.ref D) H) ∨ (J.go i H ∧ ∃ Nx : Hp → Prop, (∀ H', Nx H' → ∃ m', m' < m ∧ W (i + 1) m' H') ∧ ∀ x H', J.yld i H x H' → g x (wipe σ vs) H' fun σ2 H2 => wipe σ2 vs = wipe σ vs ∧ tt σ2 H2 fun b H3 =>
    if b = true then te σ2 H3 fun y H4 => ∃ acc, H4 D = some (.lst acc) ∧ acc.length < sizeLine ∧ Nx (upd H4 D (.lst (acc ++ [y]))) else Nx H3)) : tLc wi g tt te vs σ H Q := h
theorem z_tyes {TQ : Bool → Hp → Prop} (h : TQ true H) : tYes σ H TQ := h
theorem z_ans {tt : TT} {TQ : Bool → Hp → Prop} (b : Bool) (h : ∀ R : Bool → Hp → Prop, R b H → tt σ H R) (k : TQ b H) : tt σ H TQ := h _ k
theorem z_augS {to ti te : TE} {tget : V → V → Hp → VK → Prop} {tip : TIp} {tset : TSet} (h : to σ H fun o H1 => ti σ H1 fun i H2 => tget o i H2 fun x H3 => te σ H3 fun y H4 => tip x y H4 fun z H5 => tset o i z H5 fun H6 => D.nx σ H6) : tAugS to ti te tget tip tset D σ H := h
theorem z_getL {a : Addr} {xs : List V} {n : Nat} {i : Int} {v : V} {Q : VK} (h : SqL K H a xs) (ei : i = (n : Int)) (e : xs[n]? = some v) (k : Q v H) : rGetL K (.ref a) (.int i) H Q := ⟨a, xs, n, v, rfl, by rw [ei], h, e, k⟩
theorem z_ipI {f : Int → Int → Int} {i j : Int} {Q : VK} (k : Q (.int (f i j)) H) : ipI f (.int i) (.int j) H Q := ⟨i, j, rfl, rfl, k⟩
theorem z_setL {a : Addr} {xs : List V} {n : Nat} {i : Int} {v : V} {R : Hp → Prop} (h : H a = some (.lst xs)) (ei : i = (n : Int)) (l : n < xs.length) (k : R (upd H a (.lst (xs.set n v)))) : rSetL (.ref a) (.int i) v H R :=
  ⟨a, xs, i, n, rfl, rfl, h, by rw [ei]; unfold ixN; rw [if_pos (by omega), if_pos (by omega)]; simp, k⟩
theorem z_gSub {to ti : TE} {t : TSet} {v : V} (h : to σ H fun o H1 => ti σ H1 fun i H2 => t o i v H2 fun H3 => GQ σ H3) : gSub to ti t v σ H GQ := h
theorem z_max {a : Addr} {ns : List Int} {Q : VK} (h : SqL K H a (ns.map V.int)) (l : 0 < ns.length) (k : ∀ m, m ∈ ns → (∀ y, y ∈ ns → y ≤ m) → Q (.int m) H) : rMax K [.ref a] H Q := ⟨a, ns, rfl, h, l, k⟩
theorem z_min {a : Addr} {ns : List Int} {Q : VK} (h : SqL K H a (ns.map V.int)) (l : 0 < ns.length) (k : ∀ m, m ∈ ns → (∀ y, y ∈ ns → m ≤ y) → Q (.int m) H) : rMin K [.ref a] H Q := ⟨a, ns, rfl, h, l, k⟩
theorem map_set {α : Type} (f : Nat → α) (n k : Nat) (v : α) : ((List.range n).map f).set k v = (List.range n).map fun j => if j = k then v else f j := by
  apply List.ext_getElem?
  intro i
  rw [List.getElem?_set, List.getElem?_map, List.getElem?_map, List.length_map, List.length_range]
  by_cases h : k = i
  · subst h
    by_cases hi : k < n
    · simp [hi]
    · simp [hi]
  · have h' : ¬ i = k := fun z => h z.symm
    by_cases hi : i < n <;> simp [h, h', hi]
theorem z_ntrue {A B : Prop} (k : B) : if (!true) = true then A else B := iteF k
theorem z_nfalse {A B : Prop} (k : A) : if (!false) = true then A else B := iteT k
end
/-! slices, dicts read with a word for what is not there, len(set(..)), locks, a try -/
section
variable {X : Cx} {a : Expr} {ta : TE} {p p2 q pos : Pos}
theorem k_lset (K : PySem.W.Frag) (hg : Gl X "len") (hm : X.mg "len" = none) (hg2 : Gl X "set") (hm2 : X.mg "set" = none) (ha : PE X a ta) (hc : X.calm = true := by rfl) (hK : X.K = K := by rfl)
    (na : starEach [a] X.env = (false, eval a X.env) :: starEach [] X.env := by rfl) : PE X (.Call (.Name "len" p) [.Call (.Name "set" p2) [a] [] q] [] pos) (RZ.tLenSetI K ta) := by subst hK; exact RZ.pe_lenSetI hg hm hg2 hm2 ha hc na
end
section
variable {K : PySem.W.Frag} {σ : L2.St} {H : Hp} {Q : VK}
def rLset (K : PySem.W.Frag) : V → Hp → VK → Prop := fun x H Q => ∃ (l : Addr) (ns : List Int), x = .ref l ∧ SqL K H l (ns.map V.int) ∧ ns.Nodup ∧ ns.length ≤ 4000 ∧ Q (.int (ns.length : Nat)) H
theorem z_lset {ta : TE} (h : ta σ H fun x H1 => rLset K x H1 Q) : RZ.tLenSetI K ta σ H Q := h
theorem z_lsetR {l : Addr} {ns : List Int} (h : SqL K H l (ns.map V.int)) (nd : ns.Nodup) (len : ns.length ≤ 4000) (k : Q (.int (ns.length : Nat)) H) : rLset K (.ref l) H Q := ⟨l, ns, rfl, h, nd, len, k⟩
theorem z_sl {r : V → Option Int → Option Int → Hp → VK → Prop} {te : TE} {tl th : TO} (h : te σ H fun x H1 => tl σ H1 fun l H2 => th σ H2 fun u H3 => r x l u H3 Q) : tSl r te tl th σ H Q := h
theorem z_noP {OQ : Option Int → Hp → Prop} (h : OQ none H) : tNoPart σ H OQ := h
theorem z_part {t : TE} {OQ : Option Int → Hp → Prop} (h : t σ H fun x H1 => ∃ i, x = .int i ∧ OQ (some i) H1) : tPart t σ H OQ := h
theorem z_slL {a : Addr} {xs ys : List V} {lo hi : Option Int} (h : SqL K H a xs) (e : cutV xs lo hi = ys) (k : ∀ p, H p = none → Q (.ref p) (upd H p (.lst ys))) : rSlL K (.ref a) lo hi H Q := ⟨a, xs, rfl, h, by rw [e]; exact k⟩
theorem cut_to (xs : List V) (n : Nat) : cutV xs none (some (n : Int)) = xs.take n := by
  unfold cutV
  rw [HT.sIx_none, HT.sIx_nat, List.drop_zero, Nat.sub_zero]
  rcases Nat.le_total n xs.length with h | h
  · rw [Nat.min_eq_left h]
  · rw [Nat.min_eq_right h, List.take_of_length_le (Nat.le_refl _), List.take_of_length_le h]
theorem cut_from (xs : List V) (n : Nat) : cutV xs (some (n : Int)) none = xs.drop n := by
  unfold cutV
  rw [HT.sIx_none, HT.sIx_nat]
  rcases Nat.le_total n xs.length with h | h
  · rw [Nat.min_eq_left h, List.take_of_length_le (by simp)]
  · rw [Nat.min_eq_right h, List.drop_eq_nil_of_le (Nat.le_refl _), List.drop_eq_nil_of_le h]; simp
theorem z_dget2 {td ty tx : TE} (h : td σ H fun x H1 => ∃ a, x = .ref a ∧ IsD H1 a ∧ ty σ H1 fun y H2 => tx σ H2 fun z H3 => ∃ o, DGet H3 a y o ∧ Q (o.getD z) H3) : tDGet2 td ty tx σ H Q := h
theorem z_isD {a : Addr} {R : Addr → Prop} (h : IsD H a) (k : R a) : ∃ a', V.ref a = .ref a' ∧ IsD H a' ∧ R a' := ⟨a, rfl, h, k⟩
theorem z_lockE {t : TE} {d : Addr} {u : HO} (h : H d = some u) (m : Mut (some u)) (k : ∀ od, t σ (upd H d (.frz od u)) fun v H' => H' d = some (.frz od u) ∧ Q v (upd H' d u)) : tLockE t σ H Q := ⟨d, u, h, m, k⟩
theorem z_lock {t : TS} {D : Ends} {d : Addr} {u : HO} (h : H d = some u) (m : Mut (some u))
    (k : ∀ od, t ⟨fun σ' H' => H' d = some (.frz od u) ∧ D.nx σ' (upd H' d u), fun v H' => H' d = some (.frz od u) ∧ D.rt v (upd H' d u), fun σ' H' => H' d = some (.frz od u) ∧ D.bk σ' (upd H' d u), fun σ' H' => H' d = some (.frz od u) ∧ D.ct σ' (upd H' d u)⟩ σ (upd H d (.frz od u))) : tLock t D σ H := ⟨d, u, h, m, k⟩
theorem z_keys {td : TE} {R : It → Hp → Prop} (h : td σ H fun x H1 => ∃ d o, x = .ref d ∧ ((∃ kvs, H1 d = some (.frz o (.dK kvs)) ∧ R (Itk d o kvs) H1) ∨ ∃ kvs, H1 d = some (.frz o (.dT kvs)) ∧ R (Itkt d o kvs) H1)) : iKeys td σ H R := h
theorem z_someI {n : Int} {R : Int → Prop} (k : R n) : ∃ i, V.int n = .int i ∧ R i := ⟨n, rfl, k⟩
theorem z_someB {n : Bool} {R : Bool → Prop} (k : R n) : ∃ i, V.bl n = .bl i ∧ R i := ⟨n, rfl, k⟩
theorem z_make {C : Addr} {sp : Sp} {E : XK} {t : TA} (h : t σ H fun vs H1 => ∀ x dx, H1 x = none → H1 dx = none → dx ≠ x → sp (.ref x :: (vs ++ [])) (upd (upd H1 dx (.own x)) x (.ins C dx [])) (fun v H2 => v = .non ∧ Q (.ref x) H2) E) : tMake C sp [] E t σ H Q := h
theorem z_methSl {C : Addr} {m : Str} {sp : Sp} {E : L2.St → XK} {ta : TE} {t : TA} (h : ta σ H fun x H1 => ∃ a dx fs, x = .ref a ∧ H1 a = some (.ins C dx fs) ∧ fs.lookup m = none ∧ t σ H1 fun vs H2 => sp (x :: vs) H2 Q (E σ)) : tMethSl C m sp E ta t σ H Q := h
end
/-! equal data -/
theorem z_eqSame {K : PySem.W.Frag} {H : Hp} {Q : VK} {x y : V} {d : PyData} (hx : Dv H x d) (hy : Dv H y d) (hs : SeqAt.shaped d = true) (he : PyData.eqv d d = true) (k : Q (.bl true) H) : rEqU K x y H Q := .inr ⟨d, d, hx.dp, hy.dp, hs, hs, by rw [he]; exact k⟩
theorem z_neSame {K : PySem.W.Frag} {H : Hp} {Q : VK} {x y : V} {d : PyData} (hx : Dv H x d) (hy : Dv H y d) (hs : SeqAt.shaped d = true) (he : PyData.eqv d d = true) (k : Q (.bl false) H) : rNeU K x y H Q := .inr ⟨d, d, hx.dp, hy.dp, hs, hs, by rw [he]; exact k⟩
theorem mulS {i j : Int} (h1 : i.natAbs < 2 ^ 64) (h2 : j.natAbs < 2 ^ 64) : CMulX i j := mulx_ok h1 h2 (by decide)
theorem sz1000 {n : Nat} (h : n ≤ 100000) : n ≤ sizeLine := Nat.le_trans h (by decide)
theorem szlt {n : Nat} (h : n < 100000) : n < sizeLine := Nat.lt_of_lt_of_le h (by decide)
/-! a def that is never reached, recursion by levels -/
theorem Fk.no {P : Program} {w : World} {K : PySem.W.Frag} {mg : Str → Option Value} {base : Heap} {ps : List Str} {x qual : Str} {params : Arguments} {body : List Stmt} {scope : Scope} {f : Addr} {sp : Sp} (F : ∃ fd, FunD K x qual params body scope [] [] f fd)
    (hb : ∀ (kV doc pm : Value) (an : Option Addr) (cdv ct : Value) (us : List Value), us.length = ps.length → bindArgs (PySem.W.fnOf x qual params body scope .none kV doc pm an cdv ct) ⟨us, []⟩ = pure (ps.zip us)) (hn : ∀ vs H Q E, ¬ sp vs H Q E) :
    Fk P w K mg base 0 f ps sp := by
  obtain ⟨fd, F⟩ := F
  exact ⟨⟨fd, ⟨fun vs H Q E h => absurd h (hn vs H Q E), fun _ _ _ _ _ _ _ _ _ _ _ _ _ h => absurd h (hn _ _ _ _)⟩, F.bindsN hb⟩, F.kp⟩
end Mur
/-! Pictures, plain mathematics. -/
namespace Mur
open PySem hiding start
open PySem.Spec L2
open PyProof.Rows hiding St
inductive Pic where
  | p (c : Int)
  | q (a b c d : Pic)
  deriving DecidableEq
namespace Pic
def depth : Pic → Nat
  | .p _ => 0
  | .q a b c d => 1 + max (max a.depth b.depth) (max c.depth d.depth)
def parts : Pic → List Pic
  | .p _ => []
  | .q a b c d => [a, b, c, d]
/-- four pictures as quarters -/
def mk (a b c d : Pic) : Pic := if a = b ∧ b = c ∧ c = d ∧ a.depth = 0 then a else .q a b c d
/-- how many cells of the colour k at its own depth -/
def cnt : Pic → Int → Int
  | .p c, k => if k = c then 1 else 0
  | .q a b c d, k =>
    let m := max (max a.depth b.depth) (max c.depth d.depth)
    cnt a k * 4 ^ (m - a.depth) + cnt b k * 4 ^ (m - b.depth) + cnt c k * 4 ^ (m - c.depth) + cnt d k * 4 ^ (m - d.depth)
def sums (P : Pic) : List Int := (List.range 10).map fun k : Nat => P.cnt ((k : Nat) : Int)
def ok : Pic → Prop
  | .p c => 0 ≤ c ∧ c ≤ 9
  | .q a b c d => (Pic.q a b c d).depth ≤ 12 ∧ ¬ (a = b ∧ b = c ∧ c = d ∧ a.depth = 0)
end Pic
/-- the number of a picture in the store -/
def ix (ps : List Pic) (P : Pic) : Nat := ps.idxOf P
def nodeOf (ps : List Pic) : Pic → List Int
  | .p c => [c]
  | .q a b c d => [(ix ps a : Nat), (ix ps b : Nat), (ix ps c : Nat), (ix ps d : Nat)]
def PartsIn (ps : List Pic) (P : Pic) : Prop := ∀ Q ∈ P.parts, Q ∈ ps
structure PInv (ps : List Pic) : Prop where
  nd : ps.Nodup
  cl : ∀ P ∈ ps, PartsIn ps P
  ok : ∀ P ∈ ps, P.ok
theorem ix_lt {ps : List Pic} {P : Pic} (h : P ∈ ps) : ix ps P < ps.length := List.idxOf_lt_length_of_mem h
theorem ix_get {ps : List Pic} {P : Pic} (h : P ∈ ps) : ps[ix ps P]? = some P := by
  rw [List.getElem?_eq_getElem (ix_lt h)]
  exact congrArg some (List.getElem_idxOf (ix_lt h))
theorem ix_inj {ps : List Pic} {P Q : Pic} (hp : P ∈ ps) (hq : Q ∈ ps) (e : ix ps P = ix ps Q) : P = Q := by
  have a := ix_get hp
  rw [e, ix_get hq] at a
  exact (Option.some.inj a).symm
theorem ix_app {ps qs : List Pic} {P : Pic} (h : P ∈ ps) : ix (ps ++ qs) P = ix ps P := by
  unfold ix; rw [List.idxOf_append, if_pos h]
theorem ix_new {ps : List Pic} {P : Pic} (h : P ∉ ps) : ix (ps ++ [P]) P = ps.length := by
  unfold ix; rw [List.idxOf_append, if_neg h]; simp
theorem ix_of {ps : List Pic} (nd : ps.Nodup) {i : Nat} {P : Pic} (h : ps[i]? = some P) : ix ps P = i := by
  have hm : P ∈ ps := List.mem_of_getElem? h
  have hi : i < ps.length := (List.getElem?_eq_some_iff.mp h).1
  have a := ix_get hm
  exact (List.getElem?_inj (ix_lt hm) nd).mp (a.trans h.symm)
theorem node_app {ps qs : List Pic} {P : Pic} (h : PartsIn ps P) : nodeOf (ps ++ qs) P = nodeOf ps P := by
  cases P with
  | p c => rfl
  | q a b c d => simp only [nodeOf]; rw [ix_app (h a (by simp [Pic.parts])), ix_app (h b (by simp [Pic.parts])), ix_app (h c (by simp [Pic.parts])), ix_app (h d (by simp [Pic.parts]))]
theorem node_inj {ps : List Pic} {P Q : Pic} (hp : PartsIn ps P) (hq : PartsIn ps Q) (e : nodeOf ps P = nodeOf ps Q) : P = Q := by
  cases P with
  | p c => cases Q with
    | p c' => simp [nodeOf] at e; rw [e]
    | q _ _ _ _ => simp [nodeOf] at e
  | q a b c d => cases Q with
    | p c' => simp [nodeOf] at e
    | q a' b' c' d' =>
      simp only [nodeOf, List.cons.injEq, and_true, Int.ofNat_inj] at e
      obtain ⟨e1, e2, e3, e4⟩ := e
      rw [ix_inj (hp a (by simp [Pic.parts])) (hq a' (by simp [Pic.parts])) e1, ix_inj (hp b (by simp [Pic.parts])) (hq b' (by simp [Pic.parts])) e2,
        ix_inj (hp c (by simp [Pic.parts])) (hq c' (by simp [Pic.parts])) e3, ix_inj (hp d (by simp [Pic.parts])) (hq d' (by simp [Pic.parts])) e4]
theorem PartsIn.app {ps qs : List Pic} {P : Pic} (h : PartsIn ps P) : PartsIn (ps ++ qs) P := fun Q hq => List.mem_append_left _ (h Q hq)
theorem PInv.add {ps : List Pic} {P : Pic} (h : PInv ps) (hn : P ∉ ps) (hp : PartsIn ps P) (ho : P.ok) : PInv (ps ++ [P]) where
  nd := by
    rw [List.nodup_append]
    refine ⟨h.nd, by simp, ?_⟩
    intro a ha b hb
    simp at hb
    subst hb
    rintro rfl
    exact hn ha
  cl := fun Q hq => by
    rcases List.mem_append.mp hq with q | q
    · exact (h.cl Q q).app
    · simp at q; subst q; exact hp.app
  ok := fun Q hq => by
    rcases List.mem_append.mp hq with q | q
    · exact h.ok Q q
    · simp at q; subst q; exact ho
theorem mk_parts {ps : List Pic} {a b c d : Pic} (h : PInv ps) (ha : a ∈ ps) (hb : b ∈ ps) (hc : c ∈ ps) (hd : d ∈ ps) : PartsIn ps (Pic.mk a b c d) := by
  unfold Pic.mk
  split
  · exact h.cl a ha
  · intro Q hq
    simp [Pic.parts] at hq
    rcases hq with rfl | rfl | rfl | rfl <;> assumption
theorem depth_zero {P : Pic} (h : P.depth = 0) : ∃ c, P = .p c := by
  cases P with
  | p c => exact ⟨c, rfl⟩
  | q a b c d => simp [Pic.depth] at h
/-! ### the table of what is known -/
abbrev key (l : List Int) : List Key := l.map Sum.inl
theorem key_inj {l m : List Int} (h : key l = key m) : l = m := by
  induction l generalizing m with
  | nil => cases m with
    | nil => rfl
    | cons _ _ => simp [key] at h
  | cons x l ih => cases m with
    | nil => simp [key] at h
    | cons y m =>
      simp only [key, List.map_cons, List.cons.injEq, Sum.inl.injEq] at h
      rw [h.1, ih h.2]
structure KnOk (ps : List Pic) (kvs : List (List Key × V)) : Prop where
  len : kvs.length = ps.length
  val : ∀ P, PartsIn ps P → valV kvs (key (nodeOf ps P)) = if P ∈ ps then some (.int (ix ps P : Nat)) else none
  mem : ∀ k v, valV kvs k = some v → ∃ P ∈ ps, PartsIn ps P ∧ k = key (nodeOf ps P)
theorem node_lt {ps : List Pic} {P : Pic} (h : PartsIn ps P) : ∀ a b c d, P = .q a b c d → ∀ z ∈ nodeOf ps P, z < ps.length := by
  rintro a b c d rfl z hz
  simp [nodeOf] at hz
  have e1 := ix_lt (h a (by simp [Pic.parts]))
  have e2 := ix_lt (h b (by simp [Pic.parts]))
  have e3 := ix_lt (h c (by simp [Pic.parts]))
  have e4 := ix_lt (h d (by simp [Pic.parts]))
  rcases hz with rfl | rfl | rfl | rfl <;> omega
theorem node_has {ps : List Pic} {N P : Pic} (hN : N ∉ ps) (hP : PartsIn (ps ++ [N]) P) (hn : ¬ PartsIn ps P) : ∃ a b c d, P = .q a b c d ∧ (ps.length : Int) ∈ nodeOf (ps ++ [N]) P := by
  cases P with
  | p c => exact absurd (fun Q hq => by simp [Pic.parts] at hq) hn
  | q a b c d =>
    refine ⟨a, b, c, d, rfl, ?_⟩
    have one : ∀ Q ∈ (Pic.q a b c d).parts, Q ∉ ps → ix (ps ++ [N]) Q = ps.length := by
      intro Q hQ hq
      rcases List.mem_append.mp (hP Q hQ) with z | z
      · exact absurd z hq
      · simp at z; subst z; exact ix_new hN
    by_cases h1 : a ∈ ps
    · by_cases h2 : b ∈ ps
      · by_cases h3 : c ∈ ps
        · by_cases h4 : d ∈ ps
          · exact absurd (fun Q hq => by
              simp [Pic.parts] at hq
              rcases hq with rfl | rfl | rfl | rfl <;> assumption) hn
          · simp [nodeOf, one d (by simp [Pic.parts]) h4]
        · simp [nodeOf, one c (by simp [Pic.parts]) h3]
      · simp [nodeOf, one b (by simp [Pic.parts]) h2]
    · simp [nodeOf, one a (by simp [Pic.parts]) h1]
theorem KnOk.add {ps : List Pic} {kvs : List (List Key × V)} {N : Pic} (h : KnOk ps kvs) (I : PInv ps) (hN : N ∉ ps) (hp : PartsIn ps N) : KnOk (ps ++ [N]) (kvs ++ [(key (nodeOf ps N), .int (ps.length : Nat))]) := by
  have hnone : valV kvs (key (nodeOf ps N)) = none := by rw [h.val N hp, if_neg hN]
  refine ⟨by simp [h.len], fun P hP => ?_, fun k v e => ?_⟩
  · rw [valV_snoc _ _ _ _ hnone]
    by_cases hin : PartsIn ps P
    · rw [node_app hin]
      by_cases e : key (nodeOf ps P) = key (nodeOf ps N)
      · have : P = N := node_inj hin hp (key_inj e)
        subst this
        rw [if_pos rfl, if_pos (by simp), ix_new hN]
      · rw [if_neg e, h.val P hin]
        by_cases hm : P ∈ ps
        · rw [if_pos hm, if_pos (by simp [hm]), ix_app hm]
        · have hne : P ≠ N := fun z => e (by rw [z])
          rw [if_neg hm, if_neg (by simp [hm, hne])]
    · obtain ⟨a, b, c, d, e, hl⟩ := node_has hN hP hin
      have hPn : P ∉ ps ++ [N] := by
        intro z
        rcases List.mem_append.mp z with z | z
        · exact hin (I.cl P z)
        · simp at z; subst z; exact hin hp
      rw [if_neg hPn]
      have key_ne : key (nodeOf (ps ++ [N]) P) ≠ key (nodeOf ps N) := by
        intro z
        have z := key_inj z
        rw [z] at hl
        cases N with
        | p c' => subst e; have := congrArg List.length z; simp [nodeOf] at this
        | q a' b' c' d' =>
          have := node_lt hp a' b' c' d' rfl _ hl
          omega
      rw [if_neg key_ne]
      cases q : valV kvs (key (nodeOf (ps ++ [N]) P)) with
      | none => rfl
      | some v =>
        exfalso
        obtain ⟨R, hR, hRp, z⟩ := h.mem _ _ q
        have z := key_inj z
        rw [z] at hl
        cases R with
        | p c' => subst e; have := congrArg List.length z; simp [nodeOf] at this
        | q a' b' c' d' =>
          have := node_lt hRp a' b' c' d' rfl _ hl
          omega
  · rw [valV_snoc _ _ _ _ hnone] at e
    split at e
    · rename_i hk
      exact ⟨N, by simp, hp.app, by rw [node_app hp, hk]⟩
    · obtain ⟨P, h1, h2, h3⟩ := h.mem _ _ e
      exact ⟨P, by simp [h1], h2.app, by rw [node_app h2, h3]⟩
/-! ### counts -/
theorem pow4 (n : Nat) : (0 : Int) < 4 ^ n := Int.pow_pos (by decide)
theorem pow4_add (a b : Nat) : (4 : Int) ^ (a + b) = 4 ^ a * 4 ^ b := Int.pow_add ..
theorem cnt_bd : ∀ (P : Pic) (k : Int), 0 ≤ P.cnt k ∧ P.cnt k ≤ 4 ^ P.depth
  | .p c, k => by simp only [Pic.cnt, Pic.depth]; split <;> simp
  | .q a b c d, k => by
    have ha := cnt_bd a k
    have hb := cnt_bd b k
    have hc := cnt_bd c k
    have hd := cnt_bd d k
    simp only [Pic.cnt, Pic.depth]
    have one : ∀ (m e : Nat) (x : Int), e ≤ m → 0 ≤ x ∧ x ≤ 4 ^ e → 0 ≤ x * 4 ^ (m - e) ∧ x * 4 ^ (m - e) ≤ 4 ^ m := by
      intro m e x h ⟨h0, h1⟩
      refine ⟨Int.mul_nonneg h0 (Int.le_of_lt (pow4 _)), ?_⟩
      have q := Int.mul_le_mul_of_nonneg_right h1 (Int.le_of_lt (pow4 (m - e)))
      rw [← pow4_add, Nat.add_sub_cancel' h] at q
      exact q
    have la := one (max (max a.depth b.depth) (max c.depth d.depth)) a.depth _ (by omega) ha
    have lb := one (max (max a.depth b.depth) (max c.depth d.depth)) b.depth _ (by omega) hb
    have lc := one (max (max a.depth b.depth) (max c.depth d.depth)) c.depth _ (by omega) hc
    have ld := one (max (max a.depth b.depth) (max c.depth d.depth)) d.depth _ (by omega) hd
    have e : (4 : Int) ^ (1 + max (max a.depth b.depth) (max c.depth d.depth)) = 4 * 4 ^ (max (max a.depth b.depth) (max c.depth d.depth)) := by rw [pow4_add]; rfl
    rw [e]
    constructor <;> omega
theorem ok_depth {P : Pic} (h : P.ok) : P.depth ≤ 12 := by
  cases P with
  | p c => simp [Pic.depth]
  | q a b c d => exact h.1
/-! ### turned pictures -/
abbrev P4 := Pic × Pic × Pic × Pic
def rot4 {α : Type} (x : α × α × α × α) : α × α × α × α := (x.2.2.1, x.1, x.2.2.2, x.2.1)
def rots4 {α : Type} : Nat → α × α × α × α → α × α × α × α
  | 0, x => x
  | k + 1, x => rot4 (rots4 k x)
def arr {α : Type} (t : Int) (x : α × α × α × α) : α × α × α × α := rots4 (t % 4).toNat (if 3 < t then (x.2.1, x.1, x.2.2.2, x.2.2.1) else x)
def Pic.turn (t : Int) : Pic → Pic
  | .p c => .p c
  | .q a b c d =>
    let x := arr t (a.turn t, b.turn t, c.turn t, d.turn t)
    .q x.1 x.2.1 x.2.2.1 x.2.2.2
/-- the number f is that of P -/
def IsF (ps : List Pic) (f : Int) (P : Pic) : Prop := 0 ≤ f ∧ ps[f.toNat]? = some P
theorem IsF.mem {ps : List Pic} {f : Int} {P : Pic} (h : IsF ps f P) : P ∈ ps := List.mem_of_getElem? h.2
theorem IsF.lt {ps : List Pic} {f : Int} {P : Pic} (h : IsF ps f P) : f < ps.length := by
  have := (List.getElem?_eq_some_iff.mp h.2).1
  have := h.1
  omega
theorem IsF.inj {ps : List Pic} {f : Int} {P Q : Pic} (h : IsF ps f P) (h' : IsF ps f Q) : P = Q := Option.some.inj (h.2.symm.trans h'.2)
theorem IsF.ix {ps : List Pic} {P : Pic} (h : P ∈ ps) : IsF ps (ix ps P : Nat) P := ⟨by omega, by simpa using ix_get h⟩
theorem IsF.eq {ps : List Pic} {f : Int} {P : Pic} (nd : ps.Nodup) (h : IsF ps f P) : f = (Mur.ix ps P : Nat) := by
  have := ix_of nd h.2
  have := h.1
  omega
theorem IsF.ex {ps : List Pic} {f : Int} (h0 : 0 ≤ f) (h1 : f < ps.length) : ∃ P, IsF ps f P := ⟨ps[f.toNat]'(by omega), h0, List.getElem?_eq_getElem (by omega)⟩
theorem IsF.app {ps qs : List Pic} {f : Int} {P : Pic} (h : IsF ps f P) : IsF (ps ++ qs) f P := by
  have := (List.getElem?_eq_some_iff.mp h.2).1
  exact ⟨h.1, by rw [List.getElem?_append_left this]; exact h.2⟩
/-- ps with P, at the end if it is new -/
def addP (ps : List Pic) (P : Pic) : List Pic := if P ∈ ps then ps else ps ++ [P]
theorem addP_mem (ps : List Pic) (P : Pic) : P ∈ addP ps P := by unfold addP; split <;> simp [*]
theorem addP_ext (ps : List Pic) (P : Pic) : ∃ qs, addP ps P = ps ++ qs := by
  unfold addP; split
  · exact ⟨[], by simp⟩
  · exact ⟨[P], rfl⟩
theorem addP_sub {ps : List Pic} {P Q : Pic} (h : Q ∈ addP ps P) : Q ∈ ps ∨ Q = P := by
  unfold addP at h; split at h
  · exact .inl h
  · simpa using h
theorem addP_len (ps : List Pic) (P : Pic) : (addP ps P).length ≤ ps.length + 1 := by unfold addP; split <;> simp
theorem IsF.add {ps : List Pic} {f : Int} {P Q : Pic} (h : IsF ps f P) : IsF (addP ps Q) f P := by
  obtain ⟨qs, e⟩ := addP_ext ps Q
  rw [e]; exact h.app
theorem nodup_sub {α : Type} [DecidableEq α] : ∀ {l m : List α}, l.Nodup → (∀ x ∈ l, x ∈ m) → l.length ≤ m.length
  | [], _, _, _ => by simp
  | x :: l, m, h, s => by
    have hx := s x (by simp)
    have h1 := nodup_sub (l := l) (m := m.erase x) (List.nodup_cons.mp h).2 fun y hy => by
      have hne : y ≠ x := fun z => (List.nodup_cons.mp h).1 (z ▸ hy)
      exact (List.mem_erase_of_ne hne).mpr (s y (by simp [hy]))
    have h2 := List.length_erase_of_mem hx
    have : 0 < m.length := List.length_pos_of_mem hx
    simp only [List.length_cons]
    omega
structure WhOk (ps : List Pic) (wh : List (List Key × V)) : Prop where
  val : ∀ (f t : Int) (v : V), valV wh [.inl f, .inl t] = some v → ∃ P, IsF ps f P ∧ P.turn t ∈ ps ∧ v = .int (ix ps (P.turn t) : Nat)
  nd : (wh.map (·.1)).Nodup
  keys : ∀ k ∈ wh.map (·.1), ∃ i t : Nat, i < ps.length ∧ t < 8 ∧ k = [.inl (i : Int), .inl (t : Int)]
theorem WhOk.app {ps qs : List Pic} {wh : List (List Key × V)} (h : WhOk ps wh) : WhOk (ps ++ qs) wh :=
  ⟨fun f t v e => by
    obtain ⟨P, h1, h2, h3⟩ := h.val f t v e
    exact ⟨P, h1.app, List.mem_append_left _ h2, by rw [ix_app h2]; exact h3⟩, h.nd, fun k hk => by
    obtain ⟨i, t, h1, h2, h3⟩ := h.keys k hk
    exact ⟨i, t, by simp; omega, h2, h3⟩⟩
theorem WhOk.add {ps : List Pic} {wh : List (List Key × V)} (Q : Pic) (h : WhOk ps wh) : WhOk (addP ps Q) wh := by
  obtain ⟨qs, e⟩ := addP_ext ps Q
  rw [e]; exact h.app
theorem WhOk.nil : WhOk [] [] := ⟨fun f t v e => by simp [valV] at e, by simp, by simp⟩
theorem WhOk.len {ps : List Pic} {wh : List (List Key × V)} (h : WhOk ps wh) : wh.length ≤ 8 * ps.length := by
  have e := nodup_sub (m := (List.range ps.length).flatMap fun i : Nat => (List.range 8).map fun t : Nat => ([.inl ((i : Nat) : Int), .inl ((t : Nat) : Int)] : List Key)) h.nd fun k hk => by
    obtain ⟨i, t, h1, h2, h3⟩ := h.keys k hk
    subst h3
    simp only [List.mem_flatMap, List.mem_range, List.mem_map]
    exact ⟨i, h1, t, h2, rfl⟩
  have e2 : ∀ l : List Nat, (l.flatMap fun i : Nat => (List.range 8).map fun t : Nat => ([.inl ((i : Nat) : Int), .inl ((t : Nat) : Int)] : List Key)).length = 8 * l.length := by
    intro l
    induction l with
    | nil => rfl
    | cons x l ih =>
      rw [List.flatMap_cons, List.length_append, ih, List.length_map, List.length_range, List.length_cons]
      omega
  have e3 := e2 (List.range ps.length)
  rw [List.length_range] at e3
  rw [List.length_map] at e
  omega
theorem KnOk.nil : KnOk [] [] := ⟨rfl, fun P _ => by simp [valV], fun k v e => by simp [valV] at e⟩
theorem PInv.nil : PInv [] := ⟨by simp, by simp, by simp⟩
end Mur
/-! The store of faces in the heap. -/
namespace Mur
open PySem hiding start
open PySem.Spec L2
open PyProof.Rows hiding St
abbrev fsFaces (v0 v1 v2 v3 v4 : V) : List (Str × V) := [("nodes", v0), ("depths", v1), ("sums", v2), ("known", v3), ("whirls", v4)]
section
variable {v0 v1 v2 v3 v4 x : V}
theorem lkFaces_nodes : (fsFaces v0 v1 v2 v3 v4).lookup ("nodes" : Str) = some v0 := by rfl
theorem ptFaces_nodes : putF ("nodes" : Str) x (fsFaces v0 v1 v2 v3 v4) = fsFaces x v1 v2 v3 v4 := by rfl
theorem lkFaces_depths : (fsFaces v0 v1 v2 v3 v4).lookup ("depths" : Str) = some v1 := by rfl
theorem ptFaces_depths : putF ("depths" : Str) x (fsFaces v0 v1 v2 v3 v4) = fsFaces v0 x v2 v3 v4 := by rfl
theorem lkFaces_sums : (fsFaces v0 v1 v2 v3 v4).lookup ("sums" : Str) = some v2 := by rfl
theorem ptFaces_sums : putF ("sums" : Str) x (fsFaces v0 v1 v2 v3 v4) = fsFaces v0 v1 x v3 v4 := by rfl
theorem lkFaces_known : (fsFaces v0 v1 v2 v3 v4).lookup ("known" : Str) = some v3 := by rfl
theorem ptFaces_known : putF ("known" : Str) x (fsFaces v0 v1 v2 v3 v4) = fsFaces v0 v1 v2 x v4 := by rfl
theorem lkFaces_whirls : (fsFaces v0 v1 v2 v3 v4).lookup ("whirls" : Str) = some v4 := by rfl
theorem ptFaces_whirls : putF ("whirls" : Str) x (fsFaces v0 v1 v2 v3 v4) = fsFaces v0 v1 v2 v3 x := by rfl
theorem noFaces_stored : (fsFaces v0 v1 v2 v3 v4).lookup ("stored" : Str) = none := by rfl
theorem noFaces_need : (fsFaces v0 v1 v2 v3 v4).lookup ("need" : Str) = none := by rfl
theorem noFaces_plain : (fsFaces v0 v1 v2 v3 v4).lookup ("plain" : Str) = none := by rfl
theorem noFaces_four : (fsFaces v0 v1 v2 v3 v4).lookup ("four" : Str) = none := by rfl
theorem noFaces_depth : (fsFaces v0 v1 v2 v3 v4).lookup ("depth" : Str) = none := by rfl
theorem noFaces_quarters : (fsFaces v0 v1 v2 v3 v4).lookup ("quarters" : Str) = none := by rfl
theorem noFaces_colour : (fsFaces v0 v1 v2 v3 v4).lookup ("colour" : Str) = none := by rfl
theorem noFaces_need_depth : (fsFaces v0 v1 v2 v3 v4).lookup ("need_depth" : Str) = none := by rfl
theorem noFaces_cell : (fsFaces v0 v1 v2 v3 v4).lookup ("cell" : Str) = none := by rfl
theorem noFaces_counts : (fsFaces v0 v1 v2 v3 v4).lookup ("counts" : Str) = none := by rfl
theorem noFaces_turned : (fsFaces v0 v1 v2 v3 v4).lookup ("turned" : Str) = none := by rfl
theorem noFaces_whirled : (fsFaces v0 v1 v2 v3 v4).lookup ("whirled" : Str) = none := by rfl
theorem noFaces_kind : (fsFaces v0 v1 v2 v3 v4).lookup ("kind" : Str) = none := by rfl
theorem noFaces_turning : (fsFaces v0 v1 v2 v3 v4).lookup ("turning" : Str) = none := by rfl
theorem noFaces_apart : (fsFaces v0 v1 v2 v3 v4).lookup ("apart" : Str) = none := by rfl
end
/-- a field of a new object is stored: the heap behind it -/
theorem init_step {H : Hp} {p C dx n : Addr} {fs fs' : List (Str × V)} {o : HO} (hp : H p = some (.ins C dx fs)) (hn : H n = none) :
    (upd (upd H n o) p (.ins C dx fs')) p = some (.ins C dx fs') ∧ (upd (upd H n o) p (.ins C dx fs')) n = some o ∧ (∀ b u, H b = some u → b ≠ p → (upd (upd H n o) p (.ins C dx fs')) b = some u) ∧ n ≠ p := by
  have np : n ≠ p := (ne_of_none hp hn).symm
  exact ⟨upd_same, by rw [upd_ne np, upd_same], fun b u e hb => by rw [upd_ne hb, upd_ne (ne_of_none e hn)]; exact e, np⟩
/-- the store's own lists and dicts -/
structure FA where
  n : Addr
  d : Addr
  s : Addr
  k : Addr
  w : Addr
def FA.foot (A : FA) (b : Addr) : Prop := b = A.n ∨ b = A.d ∨ b = A.s ∨ b = A.k ∨ b = A.w
theorem upd_ex {H : Hp} {a b : Addr} {o : HO} (h : ∃ u, H b = some u) : ∃ u, upd H a o b = some u := by
  by_cases e : b = a
  · subst e; exact ⟨o, upd_same⟩
  · rw [upd_ne e]; exact h
/-- what is not at F stays -/
def Keep (F : Addr → Prop) (H H' : Hp) : Prop := ∀ b o, H b = some o → ¬ F b → H' b = some o
theorem Keep.refl (F : Addr → Prop) (H : Hp) : Keep F H H := fun _ _ h _ => h
theorem Keep.trans {F : Addr → Prop} {H H1 H2 : Hp} (a : Keep F H H1) (b : Keep F H1 H2) : Keep F H H2 := fun c o h n => b c o (a c o h n) n
theorem _root_.L2.Same.keep {F : Addr → Prop} {H H' : Hp} (s : Same H H') : Keep F H H' := fun b o h _ => s b o h
theorem Keep.mono {F G : Addr → Prop} {H H' : Hp} (h : Keep F H H') (i : ∀ b, F b → G b) : Keep G H H' := fun b o e n => h b o e fun z => n (i b z)
theorem Keep.set {F : Addr → Prop} {H H' : Hp} {a : Addr} {o : HO} (h : Keep F H H') (f : F a) : Keep F H (upd H' a o) := fun b u e n => by
  rw [upd_ne (fun z => n (by rw [z]; exact f))]; exact h b u e n
/-- a store stands at p; D: all addresses that it leans on -/
structure FacesAt (C : Addr) (H : Hp) (p : Addr) (A : FA) (D : Addr → Prop) (ps : List Pic) : Prop where
  ob : ∃ dx, H p = some (.ins C dx (fsFaces (.ref A.n) (.ref A.d) (.ref A.s) (.ref A.k) (.ref A.w)))
  nodes : ∃ ns : List Addr, H A.n = some (.lst (ns.map V.ref)) ∧ ns.length = ps.length ∧ ∀ (i : Nat) (a : Addr) (P : Pic), ns[i]? = some a → ps[i]? = some P → D a ∧ H a = some (.tup ((nodeOf ps P).map V.int))
  depths : H A.d = some (.lst (ps.map fun P => V.int (P.depth : Nat)))
  sums : ∃ ss : List Addr, H A.s = some (.lst (ss.map V.ref)) ∧ ss.length = ps.length ∧ ∀ (i : Nat) (a : Addr) (P : Pic), ss[i]? = some a → ps[i]? = some P → D a ∧ ¬ A.foot a ∧ H a = some (.lst (P.sums.map V.int))
  known : ∃ kvs, H A.k = some (.dT kvs) ∧ KnOk ps kvs
  whirl : ∃ wh, H A.w = some (.dT wh) ∧ WhOk ps wh
  inv : PInv ps
  dp : D p
  df : ∀ b, A.foot b → D b
  ex : ∀ b, D b → ∃ o, H b = some o
  ap : A.n ≠ A.d ∧ A.n ≠ A.s ∧ A.d ≠ A.s ∧ A.k ≠ A.w
section
variable {C : Addr} {H H' : Hp} {p : Addr} {A : FA} {D : Addr → Prop} {ps : List Pic}
theorem FacesAt.keep (h : FacesAt C H p A D ps) (k : ∀ b o, D b → H b = some o → H' b = some o) : FacesAt C H' p A D ps := by
  obtain ⟨⟨dx, ob⟩, ⟨ns, n1, n2, n3⟩, dd, ⟨ss, s1, s2, s3⟩, ⟨kvs, k1, k2⟩, ⟨wh, w1, w2⟩, inv, dp, df, ex, ap⟩ := h
  exact ⟨⟨dx, k _ _ dp ob⟩, ⟨ns, k _ _ (df _ (.inl rfl)) n1, n2, fun i a P e1 e2 => ⟨(n3 i a P e1 e2).1, k _ _ (n3 i a P e1 e2).1 (n3 i a P e1 e2).2⟩⟩, k _ _ (df _ (.inr (.inl rfl))) dd,
    ⟨ss, k _ _ (df _ (.inr (.inr (.inl rfl)))) s1, s2, fun i a P e1 e2 => ⟨(s3 i a P e1 e2).1, (s3 i a P e1 e2).2.1, k _ _ (s3 i a P e1 e2).1 (s3 i a P e1 e2).2.2⟩⟩,
    ⟨kvs, k _ _ (df _ (.inr (.inr (.inr (.inl rfl))))) k1, k2⟩, ⟨wh, k _ _ (df _ (.inr (.inr (.inr (.inr rfl))))) w1, w2⟩, inv, dp, df, fun b hb => let ⟨o, e⟩ := ex b hb; ⟨o, k b o hb e⟩, ap⟩
theorem FacesAt.same (h : FacesAt C H p A D ps) (s : Same H H') : FacesAt C H' p A D ps := h.keep fun b o _ e => s b o e
theorem FacesAt.len (h : FacesAt C H p A D ps) : ∃ ns : List Addr, H A.n = some (.lst (ns.map V.ref)) ∧ ns.length = ps.length := let ⟨ns, a, b, _⟩ := h.nodes; ⟨ns, a, b⟩
theorem foot_tup (h : FacesAt C H p A D ps) {t : Addr} {xs : List V} (ht : H t = some (.tup xs)) : ¬ A.foot t := by
  obtain ⟨ns, hn, _⟩ := h.nodes
  obtain ⟨ss, hs, _⟩ := h.sums
  obtain ⟨kvs, hk, _⟩ := h.known
  obtain ⟨wh, hw, _⟩ := h.whirl
  rintro (rfl | rfl | rfl | rfl | rfl)
  · rw [ht] at hn; cases hn
  · have := h.depths; rw [ht] at this; cases this
  · rw [ht] at hs; cases hs
  · rw [ht] at hk; cases hk
  · rw [ht] at hw; cases hw
theorem foot_p (h : FacesAt C H p A D ps) : ¬ A.foot p := by
  obtain ⟨dx, ob⟩ := h.ob
  obtain ⟨ns, hn, _⟩ := h.nodes
  obtain ⟨ss, hs, _⟩ := h.sums
  obtain ⟨kvs, hk, _⟩ := h.known
  obtain ⟨wh, hw, _⟩ := h.whirl
  rintro (e | e | e | e | e)
  · rw [e, hn] at ob; cases ob
  · rw [e, h.depths] at ob; cases ob
  · rw [e, hs] at ob; cases ob
  · rw [e, hk] at ob; cases ob
  · rw [e, hw] at ob; cases ob
/-- a new picture has been laid down -/
theorem FacesAt.stored (h : FacesAt C H p A D ps) {P : Pic} {t sm : Addr} {ns ss : List Addr} {kvs : List (List Key × V)} (hn : H A.n = some (.lst (ns.map V.ref))) (hs : H A.s = some (.lst (ss.map V.ref))) (hk : H A.k = some (.dT kvs))
    (ht : H t = some (.tup ((nodeOf ps P).map V.int))) (hsm : H sm = some (.lst (P.sums.map V.int))) (nf : ¬ A.foot sm) (pin : PartsIn ps P) (ok : P.ok) (hP : P ∉ ps) :
    Keep A.foot H (upd (upd (upd (upd H A.k (.dT (putK kvs (key (nodeOf ps P)) (.int (ps.length : Nat))))) A.n (.lst (ns.map V.ref ++ [.ref t]))) A.d (.lst (ps.map (fun P => V.int (P.depth : Nat)) ++ [.int (P.depth : Nat)]))) A.s (.lst (ss.map V.ref ++ [.ref sm]))) ∧
    FacesAt C (upd (upd (upd (upd H A.k (.dT (putK kvs (key (nodeOf ps P)) (.int (ps.length : Nat))))) A.n (.lst (ns.map V.ref ++ [.ref t]))) A.d (.lst (ps.map (fun P => V.int (P.depth : Nat)) ++ [.int (P.depth : Nat)]))) A.s (.lst (ss.map V.ref ++ [.ref sm]))) p A (fun b => D b ∨ b = t ∨ b = sm) (ps ++ [P]) := by
  have tf := foot_tup h ht
  have pf := foot_p h
  obtain ⟨⟨dx, ob⟩, ⟨ns', n1, n2, n3⟩, dd, ⟨ss', s1, s2, s3⟩, ⟨kvs', k1, k2⟩, ⟨wh, w1, w2⟩, inv, dp, df, ex, ap1, ap2, ap3, ap4⟩ := h
  have ens : ns'.map V.ref = ns.map V.ref := by rw [hn] at n1; injection n1 with n1; injection n1 with n1; exact n1.symm
  have ess : ss'.map V.ref = ss.map V.ref := by rw [hs] at s1; injection s1 with s1; injection s1 with s1; exact s1.symm
  have ekv : kvs' = kvs := by rw [hk] at k1; injection k1 with k1; injection k1 with k1; exact k1.symm
  subst ekv
  have K : Keep A.foot H (upd (upd (upd (upd H A.k (.dT (putK kvs' (key (nodeOf ps P)) (.int (ps.length : Nat))))) A.n (.lst (ns.map V.ref ++ [.ref t]))) A.d (.lst (ps.map (fun P => V.int (P.depth : Nat)) ++ [.int (P.depth : Nat)]))) A.s (.lst (ss.map V.ref ++ [.ref sm]))) :=
    (((Keep.refl A.foot H).set (.inr (.inr (.inr (.inl rfl))))).set (.inl rfl)).set (.inr (.inl rfl)) |>.set (.inr (.inr (.inl rfl)))
  have nk : A.n ≠ A.k := ne_of hn hk (by intro z; cases z)
  have dk : A.d ≠ A.k := ne_of dd hk (by intro z; cases z)
  have sk : A.s ≠ A.k := ne_of hs hk (by intro z; cases z)
  have nw : A.n ≠ A.w := ne_of hn w1 (by intro z; cases z)
  have dw : A.d ≠ A.w := ne_of dd w1 (by intro z; cases z)
  have sw : A.s ≠ A.w := ne_of hs w1 (by intro z; cases z)
  have e0 := k2.val P pin
  rw [if_neg hP] at e0
  refine ⟨K, ⟨dx, K _ _ ob pf⟩, ⟨ns ++ [t], by rw [upd_ne ap2, upd_ne ap1, upd_same, List.map_append]; rfl, ?_, ?_⟩, ?_, ⟨ss ++ [sm], by rw [upd_same, List.map_append]; rfl, ?_, ?_⟩, ⟨putK kvs' (key (nodeOf ps P)) (.int (ps.length : Nat)), ?_, ?_⟩, ⟨wh, ?_, w2.app⟩, inv.add hP pin ok, .inl dp, fun b hb => .inl (df b hb), ?_, ap1, ap2, ap3, ap4⟩
  · have : ns.length = ns'.length := by have := congrArg List.length ens; simpa using this.symm
    simp [this, n2]
  · intro i a Q e1 e2
    have ln : ns.length = ps.length := by have := congrArg List.length ens; simp at this; omega
    by_cases hi : i < ns.length
    · rw [List.getElem?_append_left hi] at e1
      rw [List.getElem?_append_left (by omega)] at e2
      have e1' : ns'[i]? = some a := by
        have q : (ns'.map V.ref)[i]? = (ns.map V.ref)[i]? := by rw [ens]
        rw [List.getElem?_map, List.getElem?_map, e1] at q
        cases r : ns'[i]? with
        | none => rw [r] at q; cases q
        | some b => rw [r] at q; injection q with q; injection q with q; rw [q]
      obtain ⟨da, ha⟩ := n3 i a Q e1' e2
      have hQ : Q ∈ ps := List.mem_of_getElem? e2
      exact ⟨.inl da, by rw [node_app (inv.cl Q hQ)]; exact K _ _ ha (fun z => by
        rcases z with rfl | rfl | rfl | rfl | rfl
        · rw [hn] at ha; cases ha
        · rw [dd] at ha; cases ha
        · rw [hs] at ha; cases ha
        · rw [hk] at ha; cases ha
        · rw [w1] at ha; cases ha)⟩
    · have hi2 : i = ns.length := by
        have := (List.getElem?_eq_some_iff.mp e1).1
        simp at this; omega
      subst hi2
      rw [List.getElem?_append_right (Nat.le_refl _)] at e1
      rw [ln, List.getElem?_append_right (Nat.le_refl _)] at e2
      simp at e1 e2
      subst e1 e2
      exact ⟨.inr (.inl rfl), by rw [node_app pin]; exact K _ _ ht tf⟩
  · rw [upd_ne ap3, upd_same, List.map_append]
    rfl
  · have : ss.length = ss'.length := by have := congrArg List.length ess; simpa using this.symm
    simp [this, s2]
  · intro i a Q e1 e2
    have ln : ss.length = ps.length := by have := congrArg List.length ess; simp at this; omega
    by_cases hi : i < ss.length
    · rw [List.getElem?_append_left hi] at e1
      rw [List.getElem?_append_left (by omega)] at e2
      have e1' : ss'[i]? = some a := by
        have q : (ss'.map V.ref)[i]? = (ss.map V.ref)[i]? := by rw [ess]
        rw [List.getElem?_map, List.getElem?_map, e1] at q
        cases r : ss'[i]? with
        | none => rw [r] at q; cases q
        | some b => rw [r] at q; injection q with q; injection q with q; rw [q]
      obtain ⟨da, fa, ha⟩ := s3 i a Q e1' e2
      exact ⟨.inl da, fa, K _ _ ha fa⟩
    · have hi2 : i = ss.length := by
        have := (List.getElem?_eq_some_iff.mp e1).1
        simp at this; omega
      subst hi2
      rw [List.getElem?_append_right (Nat.le_refl _)] at e1
      rw [ln, List.getElem?_append_right (Nat.le_refl _)] at e2
      simp at e1 e2
      subst e1 e2
      exact ⟨.inr (.inr rfl), nf, K _ _ hsm nf⟩
  · rw [upd_ne sk.symm, upd_ne dk.symm, upd_ne nk.symm, upd_same]
  · rw [putK_new _ e0]
    exact k2.add inv hP pin
  · rw [upd_ne sw.symm, upd_ne dw.symm, upd_ne nw.symm, upd_ne ap4.symm]
    exact w1
  · rintro b (hb | rfl | rfl)
    · obtain ⟨o, e⟩ := ex b hb
      exact upd_ex (upd_ex (upd_ex (upd_ex ⟨o, e⟩)))
    · exact ⟨_, K _ _ ht tf⟩
    · exact ⟨_, K _ _ hsm nf⟩
theorem FacesAt.nd (h : FacesAt C H p A D ps) {b : Addr} (e : H b = none) : ¬ D b := fun z => by
  obtain ⟨o, q⟩ := h.ex b z
  rw [e] at q; cases q
theorem FacesAt.ofFoot (h : FacesAt C H p A D ps) {b : Addr} (e : ¬ D b) : ¬ A.foot b := fun z => e (h.df b z)
theorem FacesAt.depthAt {f : Int} {P : Pic} (h : IsF ps f P) : atI (ps.map fun P => V.int (P.depth : Nat)) f = some (.int (P.depth : Nat)) := by
  refine atI_of (n := f.toNat) ?_ (by have := h.1; omega)
  rw [List.getElem?_map, h.2]
  rfl
/-- what a method of the store leaves -/
def After (C : Addr) (H : Hp) (p : Addr) (A : FA) (D : Addr → Prop) (qs : List Pic) (R : Hp → Prop) : Prop := ∀ H' D', Keep A.foot H H' → FacesAt C H' p A D' qs → (∀ b, D b → D' b) → (∀ b, D' b → D b ∨ H b = none) → R H'
end
end Mur
/-! Turned pictures and their cells, plain mathematics. -/
namespace Mur
open PySem hiding start
open PySem.Spec L2
open PyProof.Rows hiding St
theorem eight {t : Int} (h0 : 0 ≤ t) (h8 : t < 8) : t = 0 ∨ t = 1 ∨ t = 2 ∨ t = 3 ∨ t = 4 ∨ t = 5 ∨ t = 6 ∨ t = 7 := by omega
def afterI (a b : Int) : Int := (if 3 < b then b % 4 - a % 4 else a % 4 + b % 4) % 4 + 4 * ((a / 4 + b / 4) % 2)
def map4 {α β : Type} (f : α → β) (x : α × α × α × α) : β × β × β × β := (f x.1, f x.2.1, f x.2.2.1, f x.2.2.2)
theorem after_rg {a b : Int} (h0 : 0 ≤ a) (h8 : a < 8) (g0 : 0 ≤ b) (g8 : b < 8) : 0 ≤ afterI a b ∧ afterI a b < 8 := by
  rcases eight h0 h8 with rfl | rfl | rfl | rfl | rfl | rfl | rfl | rfl <;> rcases eight g0 g8 with rfl | rfl | rfl | rfl | rfl | rfl | rfl | rfl <;> decide
theorem arr_map {α β : Type} {t : Int} (h0 : 0 ≤ t) (h8 : t < 8) (f : α → β) (x : α × α × α × α) : map4 f (arr t x) = arr t (map4 f x) := by
  rcases eight h0 h8 with rfl | rfl | rfl | rfl | rfl | rfl | rfl | rfl <;> rfl
theorem arr_arr {a b : Int} (h0 : 0 ≤ a) (h8 : a < 8) (g0 : 0 ≤ b) (g8 : b < 8) (x : P4) : arr b (arr a x) = arr (afterI a b) x := by
  rcases eight h0 h8 with rfl | rfl | rfl | rfl | rfl | rfl | rfl | rfl <;> rcases eight g0 g8 with rfl | rfl | rfl | rfl | rfl | rfl | rfl | rfl <;> rfl
def q4 (x : P4) : Pic := .q x.1 x.2.1 x.2.2.1 x.2.2.2
theorem turn_q (t : Int) (a b c d : Pic) : (Pic.q a b c d).turn t = q4 (arr t (a.turn t, b.turn t, c.turn t, d.turn t)) := rfl
theorem turn_q4 (t : Int) (x : P4) : (q4 x).turn t = q4 (arr t (map4 (Pic.turn t) x)) := rfl
theorem turn_turn {a b : Int} (h0 : 0 ≤ a) (h8 : a < 8) (g0 : 0 ≤ b) (g8 : b < 8) : ∀ P : Pic, (P.turn a).turn b = P.turn (afterI a b)
  | .p c => rfl
  | .q x y z w => by
    rw [turn_q, turn_q4, arr_map h0 h8, arr_arr h0 h8 g0 g8, turn_q]
    simp only [map4]
    rw [turn_turn h0 h8 g0 g8 x, turn_turn h0 h8 g0 g8 y, turn_turn h0 h8 g0 g8 z, turn_turn h0 h8 g0 g8 w]
theorem arr_zero (x : P4) : arr 0 x = x := rfl
theorem turn_zero : ∀ P : Pic, P.turn 0 = P
  | .p c => rfl
  | .q x y z w => by rw [turn_q, arr_zero, turn_zero x, turn_zero y, turn_zero z, turn_zero w]; rfl
theorem turn_back {a : Int} (h0 : 0 ≤ a) (h8 : a < 8) : ∃ b, 0 ≤ b ∧ b < 8 ∧ ∀ P : Pic, (P.turn a).turn b = P := by
  have : ∃ b, 0 ≤ b ∧ b < 8 ∧ afterI a b = 0 := by
    rcases eight h0 h8 with rfl | rfl | rfl | rfl | rfl | rfl | rfl | rfl
    · exact ⟨0, by decide⟩
    · exact ⟨3, by decide⟩
    · exact ⟨2, by decide⟩
    · exact ⟨1, by decide⟩
    · exact ⟨4, by decide⟩
    · exact ⟨5, by decide⟩
    · exact ⟨6, by decide⟩
    · exact ⟨7, by decide⟩
  obtain ⟨b, b0, b8, e⟩ := this
  exact ⟨b, b0, b8, fun P => by rw [turn_turn h0 h8 b0 b8, e, turn_zero]⟩
theorem turn_inj {a : Int} (h0 : 0 ≤ a) (h8 : a < 8) {P Q : Pic} (e : P.turn a = Q.turn a) : P = Q := by
  obtain ⟨b, _, _, h⟩ := turn_back h0 h8
  rw [← h P, ← h Q, e]
theorem q4_depth {t : Int} (h0 : 0 ≤ t) (h8 : t < 8) (x : P4) : (q4 (arr t x)).depth = (q4 x).depth := by
  rcases eight h0 h8 with rfl | rfl | rfl | rfl | rfl | rfl | rfl | rfl <;> simp only [q4, arr, rots4, rot4, Pic.depth] <;> simp [rots4, rot4] <;> omega
theorem turn_depth {t : Int} (h0 : 0 ≤ t) (h8 : t < 8) : ∀ P : Pic, (P.turn t).depth = P.depth
  | .p c => rfl
  | .q x y z w => by
    rw [turn_q, q4_depth h0 h8]
    simp only [q4, Pic.depth]
    rw [turn_depth h0 h8 x, turn_depth h0 h8 y, turn_depth h0 h8 z, turn_depth h0 h8 w]
theorem arr_all {t : Int} (h0 : 0 ≤ t) (h8 : t < 8) (x : P4) (h : (arr t x).1 = (arr t x).2.1 ∧ (arr t x).2.1 = (arr t x).2.2.1 ∧ (arr t x).2.2.1 = (arr t x).2.2.2) : x.1 = x.2.1 ∧ x.2.1 = x.2.2.1 ∧ x.2.2.1 = x.2.2.2 := by
  obtain ⟨a, b, c, d⟩ := x
  rcases eight h0 h8 with rfl | rfl | rfl | rfl | rfl | rfl | rfl | rfl <;> simp [arr, rots4, rot4] at h ⊢ <;> obtain ⟨e1, e2, e3⟩ := h <;> subst_vars <;> simp
theorem turn_ok {t : Int} (h0 : 0 ≤ t) (h8 : t < 8) {P : Pic} (h : P.ok) : (P.turn t).ok := by
  cases P with
  | p c => exact h
  | q x y z w =>
    obtain ⟨h1, h2⟩ := h
    have hd := turn_depth h0 h8 (.q x y z w)
    rw [turn_q] at hd ⊢
    refine ⟨by show (q4 _).depth ≤ 12; rw [hd]; exact h1, fun ⟨e1, e2, e3, e4⟩ => h2 ?_⟩
    obtain ⟨f1, f2, f3⟩ := arr_all h0 h8 (x.turn t, y.turn t, z.turn t, w.turn t) ⟨e1, e2, e3⟩
    have g1 := turn_inj h0 h8 f1
    have g2 := turn_inj h0 h8 f2
    have g3 := turn_inj h0 h8 f3
    subst g1 g2 g3
    refine ⟨rfl, rfl, rfl, ?_⟩
    have e5 : (arr t (x.turn t, x.turn t, x.turn t, x.turn t)).1 = x.turn t := by
      rcases eight h0 h8 with rfl | rfl | rfl | rfl | rfl | rfl | rfl | rfl <;> rfl
    rw [e5, turn_depth h0 h8] at e4
    exact e4
theorem q4_cnt {t : Int} (h0 : 0 ≤ t) (h8 : t < 8) (x : P4) (k : Int) : (q4 (arr t x)).cnt k = (q4 x).cnt k := by
  have hd := q4_depth h0 h8 x
  obtain ⟨a, b, c, d⟩ := x
  simp only [q4, Pic.depth, Nat.add_left_cancel_iff] at hd
  simp only [q4, Pic.cnt]
  rw [hd]
  rcases eight h0 h8 with rfl | rfl | rfl | rfl | rfl | rfl | rfl | rfl <;> simp only [arr, rots4, rot4] <;> simp [rots4, rot4] <;> omega
theorem turn_cnt {t : Int} (h0 : 0 ≤ t) (h8 : t < 8) : ∀ (P : Pic) (k : Int), (P.turn t).cnt k = P.cnt k
  | .p c, k => rfl
  | .q x y z w, k => by
    rw [turn_q, q4_cnt h0 h8]
    simp only [q4, Pic.cnt]
    rw [turn_depth h0 h8 x, turn_depth h0 h8 y, turn_depth h0 h8 z, turn_depth h0 h8 w, turn_cnt h0 h8 x, turn_cnt h0 h8 y, turn_cnt h0 h8 z, turn_cnt h0 h8 w]
theorem pow4_le {s n : Nat} (h : s ≤ n) : (4 : Int) ^ s ≤ 4 ^ n := by
  have e1 : (4 : Int) ^ n = 4 ^ s * 4 ^ (n - s) := by rw [← pow4_add]; congr 1; omega
  have h1 : (1 : Int) ≤ 4 ^ (n - s) := by have := pow4 (n - s); omega
  have h2 := Int.mul_le_mul_of_nonneg_left h1 (Int.le_of_lt (pow4 s))
  rw [e1]; omega
theorem eqv_ints : ∀ ns : List Int, PyData.eqvAll (ns.map PyData.int) (ns.map PyData.int) = true
  | [] => rfl
  | n :: ns => by simp [PyData.eqvAll, PyData.eqv, eqv_ints ns]
def term4 (m : Nat) (P : Pic) (k : Nat) : Int := P.cnt (k : Int) * 4 ^ (m - P.depth)
def part4 (m : Nat) (l : List Pic) (k : Nat) : Int := (l.map fun P => term4 m P k).sum
theorem part4_add (m : Nat) (l : List Pic) (P : Pic) (k : Nat) : part4 m (l ++ [P]) k = part4 m l k + term4 m P k := by simp [part4]
theorem mk_ok {a b c d : Pic} (h : (Pic.q a b c d).ok) : Pic.mk a b c d = .q a b c d := if_neg h.2
/-! ### cells -/
def pick4 (i : Int) (a b c d : Pic) : Pic := if i = 0 then a else if i = 1 then b else if i = 2 then c else d
/-- the cell of a picture looked at in 2 ^ s cells each way -/
def Pic.cell : Pic → Nat → Int → Int → Int
  | .p c, _, _, _ => c
  | .q a b c d, s, x, y =>
    let h := (2 : Int) ^ (s - 1)
    let i := 2 * (y / h) + x / h
    if i = 0 then a.cell (s - 1) (x % h) (y % h) else if i = 1 then b.cell (s - 1) (x % h) (y % h) else if i = 2 then c.cell (s - 1) (x % h) (y % h) else d.cell (s - 1) (x % h) (y % h)
theorem pow2 (n : Nat) : (0 : Int) < 2 ^ n := Int.pow_pos (by decide)
theorem half_of {h x : Int} (hh : 0 < h) (h0 : 0 ≤ x) (h1 : x < 2 * h) : (x / h = 0 ∧ x % h = x ∧ x < h) ∨ (x / h = 1 ∧ x % h = x - h ∧ h ≤ x) := by
  by_cases c : x < h
  · exact .inl ⟨Int.ediv_eq_zero_of_lt h0 c, Int.emod_eq_of_lt h0 c, c⟩
  · refine .inr ?_
    have e : x = (x - h) + h * 1 := by omega
    have d1 : x / h = 1 := by rw [e, Int.add_mul_ediv_left _ _ (by omega), Int.ediv_eq_zero_of_lt (by omega) (by omega)]; rfl
    have d2 : x % h = x - h := by rw [e, Int.add_mul_emod_self_left, Int.emod_eq_of_lt (by omega) (by omega)]; omega
    exact ⟨d1, d2, by omega⟩
theorem cell_rot : ∀ (P : Pic) (s : Nat) (x y : Int), P.depth ≤ s → 0 ≤ x → x < 2 ^ s → 0 ≤ y → y < 2 ^ s → (P.turn 1).cell s x y = P.cell s y (2 ^ s - 1 - x)
  | .p c, _, _, _, _, _, _, _, _ => rfl
  | .q a b c d, 0, x, y, hd, _, _, _, _ => by simp [Pic.depth] at hd
  | .q a b c d, s + 1, x, y, hd, hx0, hx1, hy0, hy1 => by
    have e : (2 : Int) ^ (s + 1) = 2 * 2 ^ s := by rw [Int.pow_succ]; omega
    rw [e] at hx1 hy1 ⊢
    simp only [Pic.depth] at hd
    have hp := pow2 s
    show (Pic.q (c.turn 1) (a.turn 1) (d.turn 1) (b.turn 1)).cell (s + 1) x y = _
    simp only [Pic.cell, Nat.add_sub_cancel]
    rcases half_of hp hx0 hx1 with ⟨x1, x2, x3⟩ | ⟨x1, x2, x3⟩ <;> rcases half_of hp hy0 hy1 with ⟨y1, y2, y3⟩ | ⟨y1, y2, y3⟩ <;>
      rcases half_of (x := 2 * 2 ^ s - 1 - x) hp (by omega) (by omega) with ⟨z1, z2, z3⟩ | ⟨z1, z2, z3⟩ <;> try omega
    · rw [x1, x2, y1, y2, z1, z2]
      simp
      rw [cell_rot c s x y (by omega) hx0 (by omega) hy0 (by omega)]
      congr 1; omega
    · rw [x1, x2, y1, y2, z1, z2]
      simp
      rw [cell_rot d s x _ (by omega) hx0 (by omega) (by omega) (by omega)]
      congr 1; omega
    · rw [x1, x2, y1, y2, z1, z2]
      simp
      rw [cell_rot a s _ y (by omega) (by omega) (by omega) hy0 (by omega)]
      congr 1; omega
    · rw [x1, x2, y1, y2, z1, z2]
      simp
      rw [cell_rot b s _ _ (by omega) (by omega) (by omega) (by omega) (by omega)]
      congr 1; omega
theorem cell_mir : ∀ (P : Pic) (s : Nat) (x y : Int), P.depth ≤ s → 0 ≤ x → x < 2 ^ s → 0 ≤ y → y < 2 ^ s → (P.turn 4).cell s x y = P.cell s (2 ^ s - 1 - x) y
  | .p c, _, _, _, _, _, _, _, _ => rfl
  | .q a b c d, 0, x, y, hd, _, _, _, _ => by simp [Pic.depth] at hd
  | .q a b c d, s + 1, x, y, hd, hx0, hx1, hy0, hy1 => by
    have e : (2 : Int) ^ (s + 1) = 2 * 2 ^ s := by rw [Int.pow_succ]; omega
    rw [e] at hx1 hy1 ⊢
    simp only [Pic.depth] at hd
    have hp := pow2 s
    show (Pic.q (b.turn 4) (a.turn 4) (d.turn 4) (c.turn 4)).cell (s + 1) x y = _
    simp only [Pic.cell, Nat.add_sub_cancel]
    rcases half_of hp hx0 hx1 with ⟨x1, x2, x3⟩ | ⟨x1, x2, x3⟩ <;> rcases half_of hp hy0 hy1 with ⟨y1, y2, y3⟩ | ⟨y1, y2, y3⟩ <;>
      rcases half_of (x := 2 * 2 ^ s - 1 - x) hp (by omega) (by omega) with ⟨z1, z2, z3⟩ | ⟨z1, z2, z3⟩ <;> try omega
    · rw [x1, x2, y1, y2, z1, z2]
      simp
      rw [cell_mir b s x y (by omega) hx0 (by omega) hy0 (by omega)]
      congr 1; omega
    · rw [x1, x2, y1, y2, z1, z2]
      simp
      rw [cell_mir d s x _ (by omega) hx0 (by omega) (by omega) (by omega)]
      congr 1; omega
    · rw [x1, x2, y1, y2, z1, z2]
      simp
      rw [cell_mir a s _ y (by omega) (by omega) (by omega) hy0 (by omega)]
      congr 1; omega
    · rw [x1, x2, y1, y2, z1, z2]
      simp
      rw [cell_mir c s _ _ (by omega) (by omega) (by omega) (by omega) (by omega)]
      congr 1; omega
/-- where the cell that stands at (x, y) behind the turning came from -/
def fromI : Nat → Int → Int × Int → Int × Int
  | 0, n, p => p
  | k + 1, n, p => let r := fromI k n p; (r.2, n - 1 - r.1)
def fromT (t n x y : Int) : Int × Int := let r := fromI (t % 4).toNat n (x, y); if 3 < t then (n - 1 - r.1, r.2) else r
theorem fromI_rg (n : Int) : ∀ (k : Nat) (p : Int × Int), 0 ≤ p.1 → p.1 < n → 0 ≤ p.2 → p.2 < n → (0 ≤ (fromI k n p).1 ∧ (fromI k n p).1 < n) ∧ 0 ≤ (fromI k n p).2 ∧ (fromI k n p).2 < n
  | 0, p, a, b, c, d => ⟨⟨a, b⟩, c, d⟩
  | k + 1, p, a, b, c, d => by
    obtain ⟨⟨h1, h2⟩, h3, h4⟩ := fromI_rg n k p a b c d
    simp only [fromI]
    refine ⟨⟨h3, h4⟩, ?_, ?_⟩ <;> omega
theorem fromT_rg {t n x y : Int} (a : 0 ≤ x) (b : x < n) (c : 0 ≤ y) (d : y < n) : (0 ≤ (fromT t n x y).1 ∧ (fromT t n x y).1 < n) ∧ 0 ≤ (fromT t n x y).2 ∧ (fromT t n x y).2 < n := by
  obtain ⟨⟨h1, h2⟩, h3, h4⟩ := fromI_rg n (t % 4).toNat (x, y) a b c d
  simp only [fromT]
  split
  · refine ⟨⟨?_, ?_⟩, h3, h4⟩ <;> simp <;> omega
  · exact ⟨⟨h1, h2⟩, h3, h4⟩
theorem cell_turn {t : Int} (h0 : 0 ≤ t) (h8 : t < 8) (P : Pic) (s : Nat) (x y : Int) (hd : P.depth ≤ s) (a : 0 ≤ x) (b : x < 2 ^ s) (c : 0 ≤ y) (d : y < 2 ^ s) :
    (P.turn t).cell s x y = P.cell s (fromT t (2 ^ s) x y).1 (fromT t (2 ^ s) x y).2 := by
  have r1 : ∀ {u : Int}, 0 ≤ u → u < 8 → ∀ {x y : Int}, 0 ≤ x → x < 2 ^ s → 0 ≤ y → y < 2 ^ s → (P.turn (afterI u 1)).cell s x y = (P.turn u).cell s y (2 ^ s - 1 - x) := fun {u} u0 u8 {x y} a b c d => by
    rw [← turn_turn u0 u8 (by decide) (by decide), cell_rot _ s x y (by rw [turn_depth u0 u8]; exact hd) a b c d]
  have t1 : ∀ {x y : Int}, 0 ≤ x → x < 2 ^ s → 0 ≤ y → y < 2 ^ s → (P.turn 1).cell s x y = P.cell s y (2 ^ s - 1 - x) := fun {x y} a b c d => cell_rot P s x y hd a b c d
  have t2 : ∀ {x y : Int}, 0 ≤ x → x < 2 ^ s → 0 ≤ y → y < 2 ^ s → (P.turn 2).cell s x y = P.cell s (2 ^ s - 1 - x) (2 ^ s - 1 - y) := fun {x y} a b c d => by
    have := r1 (u := 1) (by decide) (by decide) a b c d
    rw [show afterI 1 1 = 2 from by decide] at this
    rw [this, t1 c d (by omega) (by omega)]
  have t3 : ∀ {x y : Int}, 0 ≤ x → x < 2 ^ s → 0 ≤ y → y < 2 ^ s → (P.turn 3).cell s x y = P.cell s (2 ^ s - 1 - y) x := fun {x y} a b c d => by
    have := r1 (u := 2) (by decide) (by decide) a b c d
    rw [show afterI 2 1 = 3 from by decide] at this
    rw [this, t2 c d (by omega) (by omega)]
    congr 1; omega
  have t4 : ∀ {x y : Int}, 0 ≤ x → x < 2 ^ s → 0 ≤ y → y < 2 ^ s → (P.turn 4).cell s x y = P.cell s (2 ^ s - 1 - x) y := fun {x y} a b c d => cell_mir P s x y hd a b c d
  have t5 : ∀ {x y : Int}, 0 ≤ x → x < 2 ^ s → 0 ≤ y → y < 2 ^ s → (P.turn 5).cell s x y = P.cell s (2 ^ s - 1 - y) (2 ^ s - 1 - x) := fun {x y} a b c d => by
    have := r1 (u := 4) (by decide) (by decide) a b c d
    rw [show afterI 4 1 = 5 from by decide] at this
    rw [this, t4 c d (by omega) (by omega)]
  have t6 : ∀ {x y : Int}, 0 ≤ x → x < 2 ^ s → 0 ≤ y → y < 2 ^ s → (P.turn 6).cell s x y = P.cell s x (2 ^ s - 1 - y) := fun {x y} a b c d => by
    have := r1 (u := 5) (by decide) (by decide) a b c d
    rw [show afterI 5 1 = 6 from by decide] at this
    rw [this, t5 c d (by omega) (by omega)]
    congr 1; omega
  have t7 : ∀ {x y : Int}, 0 ≤ x → x < 2 ^ s → 0 ≤ y → y < 2 ^ s → (P.turn 7).cell s x y = P.cell s y x := fun {x y} a b c d => by
    have := r1 (u := 6) (by decide) (by decide) a b c d
    rw [show afterI 6 1 = 7 from by decide] at this
    rw [this, t6 c d (by omega) (by omega)]
    congr 1; omega
  rcases eight h0 h8 with rfl | rfl | rfl | rfl | rfl | rfl | rfl | rfl
  · rw [turn_zero]; rfl
  · exact t1 a b c d
  · exact t2 a b c d
  · rw [t3 a b c d]; simp [fromT, fromI]; congr 1; omega
  · exact t4 a b c d
  · rw [t5 a b c d]; simp [fromT, fromI]
  · rw [t6 a b c d]; simp [fromT, fromI]; congr 1; omega
  · rw [t7 a b c d]; simp [fromT, fromI]; congr 1 <;> omega
/-! ### a base of the pictures: each is one of bs, turned -/
def Base (bs ps : List Pic) : Prop := ∀ P ∈ ps, ∃ B ∈ bs, ∃ t : Int, (0 ≤ t ∧ t < 8) ∧ P = B.turn t
theorem Base.turn {bs ps : List Pic} (h : Base bs ps) {P : Pic} (hP : P ∈ ps) {t : Int} (h0 : 0 ≤ t) (h8 : t < 8) : ∃ B ∈ bs, ∃ u : Int, (0 ≤ u ∧ u < 8) ∧ P.turn t = B.turn u := by
  obtain ⟨B, hB, u, ⟨u0, u8⟩, rfl⟩ := h P hP
  exact ⟨B, hB, afterI u t, after_rg u0 u8 h0 h8, turn_turn u0 u8 h0 h8 B⟩
theorem Base.mono {bs cs ps : List Pic} (h : Base bs ps) (s : ∀ B ∈ bs, B ∈ cs) : Base cs ps := fun P hP => by
  obtain ⟨B, hB, r⟩ := h P hP
  exact ⟨B, s B hB, r⟩
theorem Base.len {bs ps : List Pic} (h : Base bs ps) (nd : ps.Nodup) : ps.length ≤ 8 * bs.length := by
  have e := nodup_sub (m := bs.flatMap fun B => (List.range 8).map fun t : Nat => B.turn ((t : Nat) : Int)) nd fun P hP => by
    obtain ⟨B, hB, t, ⟨t0, t8⟩, rfl⟩ := h P hP
    simp only [List.mem_flatMap, List.mem_range, List.mem_map]
    exact ⟨B, hB, t.toNat, by omega, by rw [Int.toNat_of_nonneg t0]⟩
  have e2 : ∀ l : List Pic, (l.flatMap fun B => (List.range 8).map fun t : Nat => B.turn ((t : Nat) : Int)).length = 8 * l.length := by
    intro l
    induction l with
    | nil => rfl
    | cons x l ih => rw [List.flatMap_cons, List.length_append, ih, List.length_map, List.length_range, List.length_cons]; omega
  rw [e2] at e
  exact e
theorem Base.add {bs ps : List Pic} (h : Base bs ps) {P : Pic} (hP : ∃ B ∈ bs, ∃ t : Int, (0 ≤ t ∧ t < 8) ∧ P = B.turn t) : Base bs (addP ps P) := fun Q hQ => by
  rcases addP_sub hQ with z | z
  · exact h Q z
  · rw [z]; exact hP
theorem Base.app {bs ps qs : List Pic} (h : Base bs (ps ++ qs)) : Base bs ps := fun P hP => h P (List.mem_append_left _ hP)
/-! ### the table of the turned -/
theorem putK_keys {κ : Type} [DecidableEq κ] (kvs : List (κ × V)) (k : κ) (v : V) : (putK kvs k v).map (·.1) = if (valV kvs k).isSome then kvs.map (·.1) else kvs.map (·.1) ++ [k] := by
  unfold putK
  rw [valV_any]
  split
  · rw [List.map_map]
    apply List.map_congr_left
    intro kv _
    simp only [Function.comp]
    split <;> rfl
  · simp
theorem valV_mem {κ : Type} [DecidableEq κ] {kvs : List (κ × V)} {k : κ} (h : valV kvs k = none) : k ∉ kvs.map (·.1) := by
  intro hk
  obtain ⟨kv, h1, h2⟩ := List.mem_map.mp hk
  have : (kvs.any fun kv => decide (kv.1 = k)) = true := List.any_eq_true.mpr ⟨kv, h1, by simpa using h2⟩
  rw [valV_any, h] at this
  cases this
theorem WhOk.put {ps : List Pic} {wh : List (List Key × V)} (h : WhOk ps wh) {f t : Int} {P : Pic} (hP : IsF ps f P) (h0 : 0 ≤ t) (h8 : t < 8) (hm : P.turn t ∈ ps) : WhOk ps (putK wh [.inl f, .inl t] (.int (ix ps (P.turn t) : Nat))) where
  val := fun f' t' v e => by
    rw [valV_put] at e
    split at e
    · rename_i hk
      injection hk with k1 k2
      injection k2 with k2 _
      injection k1 with k1
      injection k2 with k2
      subst k1 k2
      exact ⟨P, hP, hm, (Option.some.inj e).symm⟩
    · exact h.val f' t' v e
  nd := by
    rw [putK_keys]
    cases q : valV wh [.inl f, .inl t] with
    | some v => simpa [q] using h.nd
    | none =>
      simp only [Option.isSome_none, Bool.false_eq_true, if_false]
      rw [List.nodup_append]
      refine ⟨h.nd, by simp, fun a ha b hb => ?_⟩
      simp only [List.mem_singleton] at hb
      subst hb
      exact fun z => valV_mem q (z ▸ ha)
  keys := fun k hk => by
    rw [putK_keys] at hk
    have new : ∃ i u : Nat, i < ps.length ∧ u < 8 ∧ ([.inl f, .inl t] : List Key) = [.inl (i : Int), .inl (u : Int)] := by
      refine ⟨f.toNat, t.toNat, by have := hP.1; have := hP.lt; omega, by omega, ?_⟩
      rw [Int.toNat_of_nonneg hP.1, Int.toNat_of_nonneg h0]
    split at hk
    · exact h.keys k hk
    · rcases List.mem_append.mp hk with z | z
      · exact h.keys k z
      · simp only [List.mem_singleton] at z
        subst z
        exact new
section
variable {C : Addr} {H H' : Hp} {p : Addr} {A : FA} {D : Addr → Prop} {ps : List Pic}
theorem Keep.setNew {F : Addr → Prop} {a : Addr} {o : HO} (h : Keep F H H') (f : H a = none) : Keep F H (upd H' a o) := fun b u e n => by
  rw [upd_ne (ne_of_none e f)]; exact h b u e n
theorem FacesAt.whirlSet (h : FacesAt C H p A D ps) {wh wh' : List (List Key × V)} (hw : H A.w = some (.dT wh)) (ok : WhOk ps wh') : FacesAt C (upd H A.w (.dT wh')) p A D ps := by
  have pf := foot_p h
  obtain ⟨⟨dx, ob⟩, ⟨ns, n1, n2, n3⟩, dd, ⟨ss, s1, s2, s3⟩, ⟨kvs, k1, k2⟩, ⟨wh0, w1, w2⟩, inv, dp, df, ex, ap1, ap2, ap3, ap4⟩ := h
  refine ⟨⟨dx, by rw [upd_ne (fun z => pf (by rw [z]; exact .inr (.inr (.inr (.inr rfl)))))]; exact ob⟩, ⟨ns, by rw [upd_ne (ne_of n1 hw (by intro z; cases z))]; exact n1, n2, fun i a P e1 e2 => ⟨(n3 i a P e1 e2).1, by
    rw [upd_ne (ne_of (n3 i a P e1 e2).2 hw (by intro z; cases z))]; exact (n3 i a P e1 e2).2⟩⟩, by rw [upd_ne (ne_of dd hw (by intro z; cases z))]; exact dd, ⟨ss, by rw [upd_ne (ne_of s1 hw (by intro z; cases z))]; exact s1, s2, fun i a P e1 e2 => ⟨(s3 i a P e1 e2).1, (s3 i a P e1 e2).2.1, by
    rw [upd_ne (ne_of (s3 i a P e1 e2).2.2 hw (by intro z; cases z))]; exact (s3 i a P e1 e2).2.2⟩⟩, ⟨kvs, by rw [upd_ne ap4]; exact k1, k2⟩, ⟨wh', upd_same, ok⟩, inv, dp, df, fun b hb => upd_ex (ex b hb), ap1, ap2, ap3, ap4⟩
/-- .. with more pictures, all out of the base -/
def AfterX (C : Addr) (H : Hp) (p : Addr) (A : FA) (D : Addr → Prop) (bs ps : List Pic) (R : List Pic → Hp → Prop) : Prop := ∀ qs, Base bs (ps ++ qs) → After C H p A D (ps ++ qs) (R (ps ++ qs))
end
theorem z_while {c : TT} {tb : TS} {D : Ends} {σ : L2.St} {H : Hp} (Pv : Nat → L2.St → Hp → Prop) (m0 : Nat) (h0 : Pv m0 σ H)
    (hs : ∀ m σ H, Pv m σ H → c σ H fun b H1 => if b = true then ∃ N : L2.St → Hp → Prop, (∀ σ' H', N σ' H' → ∃ m', m' < m ∧ Pv m' σ' H') ∧ tb { D with nx := N, ct := N, bk := D.nx } σ H1 else D.nx σ H1) : tWhile c tb D σ H := ⟨Pv, ⟨m0, h0⟩, hs⟩
theorem divW {i j : Int} (h0 : 0 < j) (h1 : j < 1000000000000) : CDivW i j := ⟨h0, Nat.lt_of_lt_of_le ((Nat.log2_lt (k := 40) (by omega)).mpr (by omega)) (by decide)⟩
theorem pow2_le {s n : Nat} (h : s ≤ n) : (2 : Int) ^ s ≤ 2 ^ n := by
  have e1 : (2 : Int) ^ n = 2 ^ s * 2 ^ (n - s) := by rw [← Int.pow_add]; congr 1; omega
  have h1 : (1 : Int) ≤ 2 ^ (n - s) := by have := pow2 (n - s); omega
  have h2 := Int.mul_le_mul_of_nonneg_left h1 (Int.le_of_lt (pow2 s))
  rw [e1]; omega
theorem szbig {n : Nat} (h : n < 16000000) : n < sizeLine := Nat.lt_of_lt_of_le h (by decide)
theorem k_pgl {X : Cx} {es : List Expr} {pos : Pos} {k : Nat} {tt : TGs} {n : Nat} (K : PySem.W.Frag) (hc : X.calm = true) (h : PGs X es tt) (hK : X.K = K := by rfl)
    (hn : (assignEach es X.env).length = n := by rfl) (hst : (assignEach es X.env).findIdx? (·.1) = none := by rfl) : PG X (.Tuple es k pos) (gLst K n tt) := by subst hK; exact pg_lst hc h hn hst
theorem z_gLst {K : PySem.W.Frag} {σ : L2.St} {H : Hp} {GQ : L2.St → Hp → Prop} {n : Nat} {t : TGs} {a : Addr} {xs : List V} (h : SqL K H a xs) (e : xs.length = n) (k : t xs σ H GQ) : gLst K n t (.ref a) σ H GQ := ⟨a, xs, rfl, h, e, k⟩
end Mur
/-! The laws' own nodes of pictures. -/
namespace Mur
open PySem hiding start
open PySem.Spec L2
open PyProof.Rows hiding St
/-! data of tuples alone stay wherever the tuples stay -/
mutual
def flat : PyData → Bool
  | .list _ => false
  | .tuple ds => flatAll ds
  | _ => true
def flatAll : List PyData → Bool
  | [] => true
  | d :: ds => flat d && flatAll ds
end
mutual
theorem dv_stay {H H' : Hp} (k : ∀ a xs, H a = some (.tup xs) → H' a = some (.tup xs)) : ∀ {d : PyData} {v : V}, flat d = true → Dv H v d → Dv H' v d
  | _, _, _, .non => .non
  | _, _, _, .bl b => .bl b
  | _, _, _, .int i => .int i
  | _, _, _, .str x => .str x
  | _, _, f, .lst h a => by simp [flat] at f
  | _, _, f, .tup h a => .tup (k _ _ h) (dvAll_stay k (by simpa [flat] using f) a)
theorem dvAll_stay {H H' : Hp} (k : ∀ a xs, H a = some (.tup xs) → H' a = some (.tup xs)) : ∀ {ds : List PyData} {vs : List V}, flatAll ds = true → DvAll H vs ds → DvAll H' vs ds
  | _, _, _, .nil => .nil
  | _, _, f, .cons h t => by
    simp only [flatAll, Bool.and_eq_true] at f
    exact .cons (dv_stay k f.1 h) (dvAll_stay k f.2 t)
end
theorem DvAll.snoc {H : Hp} {v : V} {d : PyData} (hv : Dv H v d) : ∀ {vs : List V} {ds : List PyData}, DvAll H vs ds → DvAll H (vs ++ [v]) (ds ++ [d])
  | _, _, .nil => .cons hv .nil
  | _, _, .cons h t => .cons h (DvAll.snoc hv t)
theorem flat_mem : ∀ {ds : List PyData} {d : PyData}, flatAll ds = true → d ∈ ds → flat d = true
  | [], d, _, h => by simp at h
  | e :: ds, d, f, h => by
    simp only [flatAll, Bool.and_eq_true] at f
    rcases List.mem_cons.mp h with rfl | h
    · exact f.1
    · exact flat_mem f.2 h
theorem tup_upd {H : Hp} {l : Addr} {xs : List V} {o : HO} (h : H l = some (.lst xs)) : ∀ a ys, H a = some (.tup ys) → upd H l o a = some (.tup ys) := fun a ys e => by
  rw [upd_ne (ne_of e h (by intro z; cases z))]; exact e
theorem Keep.tup {C : Addr} {H H' : Hp} {p : Addr} {A : FA} {D : Addr → Prop} {ps : List Pic} (h : FacesAt C H p A D ps) (k : Keep A.foot H H') : ∀ a ys, H a = some (.tup ys) → H' a = some (.tup ys) := fun a ys e => k _ _ e (foot_tup h e)
/-! rows of figures -/
def zsI (b : Int) : Nat → Int → Int
  | 0, z => z
  | j + 1, z => zsI b j z / b
def tsI : Nat → Int → Int
  | 0, t => t
  | j + 1, t => (tsI j t * 48271 + 9973 * (j : Int) + 11) % 2147483647
def absI (z : Int) : Int := if z < 0 then -z else z
def rowI (z : Int) (m : Nat) (b : Int) : List Int :=
  if (1000000000000000000 : Int) ≤ absI z then (List.range m).map fun j : Nat => zsI b j (absI z) % b
  else (List.range m).map fun j : Nat => tsI (j + 1) ((absI z % 1000003 + 17) * 69621 % 2147483647) / 1021 % b
theorem row_len (z : Int) (m : Nat) (b : Int) : (rowI z m b).length = m := by
  unfold rowI
  by_cases h : (1000000000000000000 : Int) ≤ absI z
  · rw [if_pos h]; simp
  · rw [if_neg h]; simp
theorem row_rg {z : Int} {m : Nat} {b : Int} (hb : 0 < b) : ∀ x ∈ rowI z m b, 0 ≤ x ∧ x < b := by
  intro x hx
  unfold rowI at hx
  by_cases h : (1000000000000000000 : Int) ≤ absI z
  · rw [if_pos h] at hx
    obtain ⟨j, _, rfl⟩ := List.mem_map.mp hx
    exact ⟨Int.emod_nonneg _ (by omega), Int.emod_lt_of_pos _ hb⟩
  · rw [if_neg h] at hx
    obtain ⟨j, _, rfl⟩ := List.mem_map.mp hx
    exact ⟨Int.emod_nonneg _ (by omega), Int.emod_lt_of_pos _ hb⟩
theorem row_get {z : Int} {m : Nat} {b : Int} {i : Nat} (h : i < m) : (rowI z m b)[i]? = some ((rowI z m b).getD i 0) := by
  rw [List.getD_eq_getElem?_getD, List.getElem?_eq_getElem (by rw [row_len]; exact h)]; rfl
theorem row_getrg {z : Int} {m : Nat} {b : Int} (hb : 0 < b) {i : Nat} (h : i < m) : 0 ≤ (rowI z m b).getD i 0 ∧ (rowI z m b).getD i 0 < b := row_rg hb _ (List.mem_of_getElem? (row_get h))
theorem atI_row {z : Int} {m : Nat} {b : Int} {i : Nat} {k : Int} (h : i < m) (e : k = (i : Nat)) : atI ((rowI z m b).map V.int) k = some (.int ((rowI z m b).getD i 0)) := atI_of (by rw [List.getElem?_map, row_get h]; rfl) e
theorem ts_rg {t : Int} (h0 : 0 ≤ t) (h1 : t < 2147483647) : ∀ j, 0 ≤ tsI j t ∧ tsI j t < 2147483647
  | 0 => ⟨h0, h1⟩
  | j + 1 => ⟨Int.emod_nonneg _ (by decide), Int.emod_lt_of_pos _ (by decide)⟩
def pickI (f o m : Int) : Int := if f % 2 = 0 ∧ 10 < m then (if m - 1 - o % 4 > 10 then m - 1 - o % 4 else 10) else o
theorem pick_rg {f o m : Int} (h0 : 0 ≤ o) (h1 : o < 10) (hm : 10 ≤ m) : 0 ≤ pickI f o m ∧ pickI f o m < m := by
  unfold pickI
  split
  · split <;> omega
  · omega
def quI (z m : Int) : List (Int × Int) := (List.range 4).map fun k : Nat => (pickI ((rowI z 12 10).getD (3 * k) 0) ((rowI z 12 10).getD (3 * k + 1) 0) m, (rowI z 12 10).getD (3 * k + 2) 0 % 8)
def pairD (x : Int × Int) : PyData := .tuple [.int x.1, .int x.2]
theorem qu_len (z m : Int) : (quI z m).length = 4 := by simp [quI]
theorem qu_rg {z m : Int} (hm : 10 ≤ m) : ∀ x ∈ quI z m, (0 ≤ x.1 ∧ x.1 < m) ∧ 0 ≤ x.2 ∧ x.2 < 8 := by
  intro x hx
  simp only [quI, List.mem_map, List.mem_range] at hx
  obtain ⟨k, hk, rfl⟩ := hx
  have h1 := row_getrg (z := z) (m := 12) (b := 10) (by decide) (i := 3 * k + 1) (by omega)
  exact ⟨pick_rg h1.1 h1.2 hm, Int.emod_nonneg _ (by decide), Int.emod_lt_of_pos _ (by decide)⟩
theorem flat_pairs : ∀ l : List (Int × Int), flatAll (l.map pairD) = true
  | [] => rfl
  | x :: l => by simp [flatAll, flat, pairD, flat_pairs l]
/-! nodes -/
inductive Nd where
  | pl (c : Int)
  | qu (l : List (Int × Int))
def Nd.data : Nd → PyData
  | .pl c => .tuple [.int c]
  | .qu l => .tuple (l.map pairD)
theorem Nd.flat (n : Nd) : Mur.flat n.data = true := by
  cases n with
  | pl c => rfl
  | qu l => exact flat_pairs l
/-- the picture that (i, t) names -/
def atP (Ps : List Pic) (x : Int × Int) : Pic := (Ps.getD x.1.toNat (.p 0)).turn x.2
/-- nodes and their pictures -/
def NdIs (Ps : List Pic) (P : Pic) : Nd → Prop
  | .pl c => P = .p c
  | .qu l => ∃ a b c d : Int × Int, l = [a, b, c, d] ∧ P = .q (atP Ps a) (atP Ps b) (atP Ps c) (atP Ps d) ∧ ∀ x ∈ l, (0 ≤ x.1 ∧ x.1 < Ps.length) ∧ 0 ≤ x.2 ∧ x.2 < 8
theorem atP_app {Ps Qs : List Pic} {x : Int × Int} (h : 0 ≤ x.1 ∧ x.1 < Ps.length) : atP (Ps ++ Qs) x = atP Ps x := by
  have : x.1.toNat < Ps.length := by omega
  simp only [atP, List.getD_eq_getElem?_getD]
  rw [List.getElem?_append_left this]
theorem NdIs.app {Ps Qs : List Pic} {P : Pic} {n : Nd} (h : NdIs Ps P n) : NdIs (Ps ++ Qs) P n := by
  cases n with
  | pl c => exact h
  | qu l =>
    obtain ⟨a, b, c, d, rfl, rfl, hr⟩ := h
    refine ⟨a, b, c, d, rfl, ?_, fun x hx => ?_⟩
    · rw [atP_app (hr a (by simp)).1, atP_app (hr b (by simp)).1, atP_app (hr c (by simp)).1, atP_app (hr d (by simp)).1]
    · have := hr x hx
      refine ⟨⟨this.1.1, ?_⟩, this.2⟩
      have := this.1.2
      simp; omega
theorem atP_get {Ps : List Pic} {x : Int × Int} (h : 0 ≤ x.1 ∧ x.1 < Ps.length) : ∃ P, Ps[x.1.toNat]? = some P ∧ atP Ps x = P.turn x.2 := by
  have hl : x.1.toNat < Ps.length := by omega
  exact ⟨Ps[x.1.toNat], List.getElem?_eq_getElem hl, by simp [atP, hl]⟩
/-- the lists nodes_here, deeps, told -/
structure NodesL (H : Hp) (nl : Addr) (Ps : List Pic) (nds : List Nd) : Prop where
  len : nds.length = Ps.length
  lst : ∃ vs, H nl = some (.lst vs) ∧ DvAll H vs (nds.map Nd.data)
  is : ∀ (i : Nat) (P : Pic) (n : Nd), Ps[i]? = some P → nds[i]? = some n → NdIs (Ps.take i) P n
theorem flat_nds : ∀ l : List Nd, flatAll (l.map Nd.data) = true
  | [] => rfl
  | x :: l => by simp [flatAll, x.flat, flat_nds l]
theorem NodesL.stay {H H' : Hp} {nl : Addr} {Ps : List Pic} {nds : List Nd} (h : NodesL H nl Ps nds) (k : ∀ a xs, H a = some (.tup xs) → H' a = some (.tup xs)) (kl : ∀ vs, H nl = some (.lst vs) → H' nl = some (.lst vs)) : NodesL H' nl Ps nds := by
  obtain ⟨l, ⟨vs, h1, h2⟩, h3⟩ := h
  exact ⟨l, ⟨vs, kl _ h1, dvAll_stay k (flat_nds nds) h2⟩, h3⟩
theorem NodesL.same {H H' : Hp} {nl : Addr} {Ps : List Pic} {nds : List Nd} (h : NodesL H nl Ps nds) (s : Same H H') : NodesL H' nl Ps nds := h.stay (fun a xs e => s _ _ e) fun vs e => s _ _ e
theorem DvAll.at {H : Hp} : ∀ {ds : List PyData} {vs : List V} {i : Nat} {d : PyData}, DvAll H vs ds → ds[i]? = some d → ∃ v, vs[i]? = some v ∧ Dv H v d
  | _, _, _, _, .nil, e => by simp at e
  | _, _, 0, _, .cons h _, e => by simp at e; subst e; exact ⟨_, rfl, h⟩
  | _, _, i + 1, d, .cons _ t, e => by
    obtain ⟨v, h1, h2⟩ := DvAll.at (i := i) (d := d) t (by simpa using e)
    exact ⟨v, by simpa using h1, h2⟩
/-- the node at i, read in the heap -/
theorem NodesL.get2 {H : Hp} {nl : Addr} {Ps : List Pic} {nds : List Nd} (h : NodesL H nl Ps nds) {i : Nat} {P : Pic} (hP : Ps[i]? = some P) :
    ∃ vs q xs n, H nl = some (.lst vs) ∧ vs.length = Ps.length ∧ vs[i]? = some (.ref q) ∧ H q = some (.tup xs) ∧ NdIs Ps P n ∧ Dv H (.ref q) n.data ∧
      ((∃ c, n = .pl c ∧ P = .p c ∧ xs = [.int c]) ∨ ∃ a b c d : Int × Int, n = .qu [a, b, c, d] ∧ P = .q (atP Ps a) (atP Ps b) (atP Ps c) (atP Ps d) ∧ (∀ x ∈ [a, b, c, d], (0 ≤ x.1 ∧ x.1 < Ps.length) ∧ 0 ≤ x.2 ∧ x.2 < 8) ∧ xs.length = 4 ∧ DvAll H xs [pairD a, pairD b, pairD c, pairD d] ∧ ∀ x ∈ [a, b, c, d], x.1 < i) := by
  obtain ⟨hl, ⟨vs, h1, h2⟩, h3⟩ := h
  have hi : i < nds.length := by have := (List.getElem?_eq_some_iff.mp hP).1; omega
  have hn : nds[i]? = some nds[i] := List.getElem?_eq_getElem hi
  have his0 := h3 i P _ hP hn
  have his : NdIs Ps P nds[i] := by
    have h := his0.app (Qs := Ps.drop i)
    rw [List.take_append_drop] at h
    exact h
  obtain ⟨v, e1, e2⟩ := DvAll.at (i := i) (d := nds[i].data) h2 (by rw [List.getElem?_map, hn]; rfl)
  have hlen := h2.len
  rw [List.length_map, hl] at hlen
  generalize nds[i] = n at his0 his e2
  cases n with
  | pl c =>
    obtain rfl : P = .p c := his
    cases e2 with
    | @tup q xs _ hq ha =>
    cases ha with
    | cons g t =>
      cases t
      cases g
      exact ⟨vs, q, _, .pl c, h1, hlen, e1, hq, rfl, .tup hq (.cons (.int c) .nil), .inl ⟨c, rfl, rfl, rfl⟩⟩
  | qu l =>
    obtain ⟨a, b, c, d, rfl, rfl, hr⟩ := his
    cases e2 with
    | @tup q xs _ hq ha =>
      exact ⟨vs, q, xs, .qu [a, b, c, d], h1, hlen, e1, hq, ⟨a, b, c, d, rfl, rfl, hr⟩, .tup hq ha, .inr ⟨a, b, c, d, rfl, rfl, hr, ha.len, ha, fun x hx => by
        obtain ⟨a', b', c', d', e1, _, hr0⟩ := his0
        have h := (hr0 x hx).1.2
        rw [List.length_take] at h
        omega⟩⟩
theorem NodesL.get {H : Hp} {nl : Addr} {Ps : List Pic} {nds : List Nd} (h : NodesL H nl Ps nds) {i : Nat} {P : Pic} (hP : Ps[i]? = some P) :
    ∃ vs q xs n, H nl = some (.lst vs) ∧ vs.length = Ps.length ∧ vs[i]? = some (.ref q) ∧ H q = some (.tup xs) ∧ NdIs Ps P n ∧ Dv H (.ref q) n.data ∧
      ((∃ c, n = .pl c ∧ P = .p c ∧ xs = [.int c]) ∨ ∃ a b c d : Int × Int, n = .qu [a, b, c, d] ∧ P = .q (atP Ps a) (atP Ps b) (atP Ps c) (atP Ps d) ∧ (∀ x ∈ [a, b, c, d], (0 ≤ x.1 ∧ x.1 < Ps.length) ∧ 0 ≤ x.2 ∧ x.2 < 8) ∧ xs.length = 4 ∧ DvAll H xs [pairD a, pairD b, pairD c, pairD d]) := by
  obtain ⟨vs, q, xs, n, h1, h2, h3, h4, h5, h6, h7⟩ := h.get2 hP
  refine ⟨vs, q, xs, n, h1, h2, h3, h4, h5, h6, ?_⟩
  rcases h7 with h7 | ⟨a, b, c, d, e1, e2, e3, e4, e5, _⟩
  · exact .inl h7
  · exact .inr ⟨a, b, c, d, e1, e2, e3, e4, e5⟩
theorem pair_of {H : Hp} {v : V} {x : Int × Int} (h : Dv H v (pairD x)) : ∃ q, v = .ref q ∧ H q = some (.tup [.int x.1, .int x.2]) := by
  cases h with
  | @tup q xs _ hq ha =>
  cases ha with
  | cons g t =>
  cases g
  cases t with
  | cons g2 t2 =>
  cases g2
  cases t2
  exact ⟨q, rfl, hq⟩
/-! the whole stand: the store and the three lists -/
structure Stand (C : Addr) (H : Hp) (p : Addr) (A : FA) (D : Addr → Prop) (ps : List Pic) (nl dl tl : Addr) (Ps : List Pic) (nds : List Nd) : Prop where
  F : FacesAt C H p A D ps
  N : NodesL H nl Ps nds
  dp : H dl = some (.lst (Ps.map fun P => V.int (P.depth : Nat)))
  td : H tl = some (.lst (Ps.map fun P => V.int (ix ps P : Nat)))
  mem : ∀ P ∈ Ps, P ∈ ps
  base : Base Ps ps
  nn : ¬ D nl
  nd : ¬ D dl
  nt : ¬ D tl
  d1 : nl ≠ dl
  d2 : nl ≠ tl
  d3 : dl ≠ tl
  ten : 10 ≤ Ps.length
section
variable {C : Addr} {H H' : Hp} {p : Addr} {A : FA} {D D' : Addr → Prop} {ps qs : List Pic} {nl dl tl : Addr} {Ps : List Pic} {nds : List Nd}
theorem Stand.same (h : Stand C H p A D ps nl dl tl Ps nds) (s : Same H H') : Stand C H' p A D ps nl dl tl Ps nds :=
  ⟨h.F.same s, h.N.same s, s _ _ h.dp, s _ _ h.td, h.mem, h.base, h.nn, h.nd, h.nt, h.d1, h.d2, h.d3, h.ten⟩
theorem fresh_not {b : Addr} {o : HO} (e : H b = some o) (n : ¬ D b) (d2 : ∀ b, D' b → D b ∨ H b = none) : ¬ D' b := fun z => (d2 b z).elim n fun q => by rw [e] at q; cases q
theorem Stand.after (h : Stand C H p A D ps nl dl tl Ps nds) (kp : Keep A.foot H H') (hF : FacesAt C H' p A D' (ps ++ qs)) (hB : Base Ps (ps ++ qs)) (d2 : ∀ b, D' b → D b ∨ H b = none) : Stand C H' p A D' (ps ++ qs) nl dl tl Ps nds := by
  obtain ⟨_, ⟨vs, hv, _⟩, _⟩ := h.N
  refine ⟨hF, h.N.stay (kp.tup h.F) (fun vs e => kp _ _ e (h.F.ofFoot h.nn)), kp _ _ h.dp (h.F.ofFoot h.nd), ?_, fun P hP => List.mem_append_left _ (h.mem P hP), hB, fresh_not hv h.nn d2, fresh_not h.dp h.nd d2, fresh_not h.td h.nt d2, h.d1, h.d2, h.d3, h.ten⟩
  rw [kp _ _ h.td (h.F.ofFoot h.nt)]
  congr 2
  apply List.map_congr_left
  intro P hP
  rw [ix_app (h.mem P hP)]
theorem Stand.mid (h : Stand C H p A D ps nl dl tl Ps nds) (kp : Keep A.foot H H') (d2 : ∀ b, D' b → D b ∨ H b = none) (qs : List Pic) : NodesL H' nl Ps nds ∧ H' dl = some (.lst (Ps.map fun P => V.int (P.depth : Nat))) ∧ H' tl = some (.lst (Ps.map fun P => V.int (ix (ps ++ qs) P : Nat))) ∧
    (∀ P ∈ Ps, P ∈ ps ++ qs) ∧ ¬ D' nl ∧ ¬ D' dl ∧ ¬ D' tl := by
  obtain ⟨_, ⟨vs, hv, _⟩, _⟩ := h.N
  refine ⟨h.N.stay (kp.tup h.F) (fun vs e => kp _ _ e (h.F.ofFoot h.nn)), kp _ _ h.dp (h.F.ofFoot h.nd), ?_, fun P hP => List.mem_append_left _ (h.mem P hP), fresh_not hv h.nn d2, fresh_not h.dp h.nd d2, fresh_not h.td h.nt d2⟩
  rw [kp _ _ h.td (h.F.ofFoot h.nt)]
  congr 2
  apply List.map_congr_left
  intro P hP
  rw [ix_app (h.mem P hP)]
theorem Stand.updL (h : Stand C H p A D ps nl dl tl Ps nds) {L : Addr} {xs : List V} {o : HO} (hL : H L = some (.lst xs)) (nL : ¬ D L) (e1 : L ≠ nl) (e2 : L ≠ dl) (e3 : L ≠ tl) : Stand C (upd H L o) p A D ps nl dl tl Ps nds :=
  ⟨h.F.keep fun b u hb e => by rw [upd_ne (fun z => nL (by rw [← z]; exact hb))]; exact e, h.N.stay (tup_upd hL) (fun vs e => by rw [upd_ne e1.symm]; exact e), by rw [upd_ne e2.symm]; exact h.dp, by rw [upd_ne e3.symm]; exact h.td, h.mem, h.base, h.nn, h.nd, h.nt, h.d1, h.d2, h.d3, h.ten⟩
theorem back_fresh (hF : FacesAt C H' p A D' ps) (kp : Keep A.foot H H') {b : Addr} (z : H' b = none) : H b = none := by
  cases e : H b with
  | none => rfl
  | some o =>
    by_cases hf : A.foot b
    · obtain ⟨o2, e2⟩ := hF.ex b (hF.df b hf)
      rw [e2] at z; cases z
    · rw [kp b o e hf] at z; cases z
theorem quads_get {xs : List V} {l : List (Int × Int)} (hall : DvAll H xs (l.map pairD)) (hr : ∀ x ∈ l, (0 ≤ x.1 ∧ x.1 < Ps.length) ∧ 0 ≤ x.2 ∧ x.2 < 8) {k : Nat} {v : V} (e : xs[k]? = some v) :
    ∃ (z : Int × Int) (w : Addr) (r : Pic), l[k]? = some z ∧ v = .ref w ∧ H w = some (.tup [.int z.1, .int z.2]) ∧ Ps[z.1.toNat]? = some r ∧ atP Ps z = r.turn z.2 ∧ (0 ≤ z.1 ∧ z.1 < Ps.length) ∧ 0 ≤ z.2 ∧ z.2 < 8 := by
  obtain ⟨dd, e1, e2⟩ := hall.get e
  rw [List.getElem?_map] at e1
  cases e3 : l[k]? with
  | none => rw [e3] at e1; cases e1
  | some z =>
    rw [e3] at e1
    obtain rfl := Option.some.inj e1
    obtain ⟨w, rfl, hw⟩ := pair_of e2
    have hz := hr z (List.mem_of_getElem? e3)
    obtain ⟨r, hr1, hr2⟩ := atP_get hz.1
    exact ⟨z, w, r, rfl, rfl, hw, hr1, hr2, hz.1, hz.2⟩
theorem Stand.push {P : Pic} {n : Nd} {v : V} {vs : List V} (hF : FacesAt C H p A D ps) (hN : NodesL H nl Ps nds) (hd : H dl = some (.lst (Ps.map fun P => V.int (P.depth : Nat)))) (ht : H tl = some (.lst (Ps.map fun P => V.int (ix ps P : Nat)))) (mem : ∀ P ∈ Ps, P ∈ ps)
    (base : Base (Ps ++ [P]) ps) (nn : ¬ D nl) (nd : ¬ D dl) (nt : ¬ D tl) (d1 : nl ≠ dl) (d2 : nl ≠ tl) (d3 : dl ≠ tl) (ten : 10 ≤ Ps.length) (hm : P ∈ ps) (is : NdIs Ps P n) (hv : Dv H v n.data) (hvs : H nl = some (.lst vs)) :
    Stand C (upd (upd (upd H nl (.lst (vs ++ [v]))) dl (.lst ((Ps.map fun P => V.int (P.depth : Nat)) ++ [.int (P.depth : Nat)]))) tl (.lst ((Ps.map fun P => V.int (ix ps P : Nat)) ++ [.int (ix ps P : Nat)]))) p A D ps nl dl tl (Ps ++ [P]) (nds ++ [n]) := by
  obtain ⟨hl, ⟨vs', e1, e2⟩, e3⟩ := hN
  obtain rfl : vs' = vs := by rw [hvs] at e1; injection e1 with e1; injection e1 with e1; exact e1.symm
  have k1 : ∀ a xs, H a = some (.tup xs) → (upd (upd (upd H nl (.lst (vs' ++ [v]))) dl (.lst ((Ps.map fun P => V.int (P.depth : Nat)) ++ [.int (P.depth : Nat)]))) tl (.lst ((Ps.map fun P => V.int (ix ps P : Nat)) ++ [.int (ix ps P : Nat)]))) a = some (.tup xs) := fun a xs e => by
    rw [upd_ne (ne_of e ht (by intro z; cases z)), upd_ne (ne_of e hd (by intro z; cases z)), upd_ne (ne_of e hvs (by intro z; cases z))]; exact e
  refine ⟨?_, ⟨by simp [hl], ⟨vs' ++ [v], by rw [upd_ne d2, upd_ne d1, upd_same], ?_⟩, ?_⟩, by rw [upd_ne d3, upd_same, List.map_append]; rfl, by rw [upd_same, List.map_append]; rfl, ?_, base, nn, nd, nt, d1, d2, d3, by simp; omega⟩
  · refine hF.keep fun b o hb e => ?_
    rw [upd_ne (fun z => nt (by rw [← z]; exact hb)), upd_ne (fun z => nd (by rw [← z]; exact hb)), upd_ne (fun z => nn (by rw [← z]; exact hb))]; exact e
  · rw [List.map_append]
    exact DvAll.snoc (dv_stay k1 n.flat hv) (dvAll_stay k1 (flat_nds nds) e2)
  · intro i P' n' h1 h2
    by_cases hi : i < Ps.length
    · rw [List.getElem?_append_left hi] at h1
      rw [List.getElem?_append_left (by omega)] at h2
      rw [List.take_append_of_le_length (by omega)]
      exact e3 i P' n' h1 h2
    · have hi2 : i = Ps.length := by
        have := (List.getElem?_eq_some_iff.mp h1).1
        simp at this; omega
      subst hi2
      rw [List.getElem?_append_right (Nat.le_refl _)] at h1
      rw [← hl, List.getElem?_append_right (Nat.le_refl _)] at h2
      simp at h1 h2
      subst h1 h2
      rw [List.take_append_of_le_length (Nat.le_refl _), List.take_of_length_le (Nat.le_refl _)]
      exact is
  · intro P' hP'
    rcases List.mem_append.mp hP' with z | z
    · exact mem P' z
    · simp at z; subst z; exact hm
end
def colP : Pic → Int
  | .p c => c
  | _ => 0
theorem keep_seq {K : PySem.W.Frag} {F : Addr → Prop} {H H' : Hp} {a : Addr} {xs : List V} (k : Keep F H H') (f : ∀ b, F b → H b = none) (h : SqL K H a xs) : SqL K H' a xs := by
  rcases h with (h | ⟨o, h⟩) | h
  · exact .inl (.inl (k _ _ h fun z => by rw [f _ z] at h; cases h))
  · exact .inl (.inr ⟨o, k _ _ h fun z => by rw [f _ z] at h; cases h⟩)
  · exact .inr h
theorem cut_ints (ns : List Int) (lo hi : Option Int) : ∃ ms : List Int, cutV (ns.map V.int) lo hi = ms.map V.int ∧ ms.length ≤ ns.length := by
  unfold cutV
  refine ⟨(ns.drop (HT.sIx (ns.map V.int).length 0 lo)).take (HT.sIx (ns.map V.int).length (ns.map V.int).length hi - HT.sIx (ns.map V.int).length 0 lo), by rw [List.map_take, List.map_drop], ?_⟩
  rw [List.length_take, List.length_drop]
  omega
/-- the ten plain pictures -/
def plains (n : Nat) : List Pic := (List.range n).map fun k : Nat => Pic.p (k : Int)
theorem plains_get {n k : Nat} (h : k < n) : (plains n)[k]? = some (.p (k : Int)) := by simp [plains, h]
theorem plains_nodup (n : Nat) : (plains n).Nodup := by
  unfold plains List.Nodup
  rw [List.pairwise_map]
  refine List.Pairwise.imp (fun {a b} h e => h ?_) (List.nodup_range (n := n))
  injection e with e
  omega
theorem plains_add (n : Nat) : addP (plains n) (.p (n : Int)) = plains (n + 1) := by
  have : Pic.p (n : Int) ∉ plains n := by
    simp only [plains, List.mem_map, List.mem_range]
    rintro ⟨k, hk, e⟩
    injection e with e
    omega
  unfold addP
  rw [if_neg this]
  simp [plains, List.range_succ]
theorem plains_ix {n k : Nat} (h : k < n) : ix (plains n) (.p (k : Int)) = k := ix_of (plains_nodup n) (plains_get h)
theorem plains_len (n : Nat) : (plains n).length = n := by simp [plains]
theorem base_plains (n : Nat) : Base (plains n) (plains n) := fun P hP => ⟨P, hP, 0, by decide, (turn_zero P).symm⟩
end Mur
/-! A list comprehension whose element may let an exception out of the def. -/
namespace Mur
open PySem hiding start
open PySem.Spec L2
open PyProof.Rows hiding St
/-- what flies in the block: a call's exception -/
def Flies (Y : Cx) (E : XK) (u : Value) (s' : Shared) : Prop := ∃ pins σ H s, Inv Y pins σ H s ∧ L2.CX Y.prog Y.w Y.stack H s E u s'
abbrev blkE (X : Cx) (s : Shared) (H : Hp) (scope : Scope) (ce : Env) (fp : List Addr) (E : XK) : Cx := (X.blk s H scope ce fp).tr [] (Flies (X.blk s H scope ce fp) E)
section
variable {X : Cx} {s3 : Shared} {H3 : Hp} {scope : Scope} {ce : Env} {fp : List Addr} {E : XK} {pins : List (Addr × Obj)} {σ : L2.St} {H : Hp} {s : Shared}
theorem inE (I : Inv (X.blk s3 H3 scope ce fp) pins σ H s) : Inv (blkE X s3 H3 scope ce fp E) pins σ H s :=
  ⟨I.ok.toTry _ _, I.os, I.bare, I.base, I.loc, I.cell, I.free, I.freeC, I.pin, I.hok, I.len⟩
theorem outE (I : Inv (blkE X s3 H3 scope ce fp E) pins σ H s) : Inv (X.blk s3 H3 scope ce fp) pins σ H s :=
  ⟨I.ok.ofTry, I.os, I.bare, I.base, I.loc, I.cell, I.free, I.freeC, I.pin, I.hok, I.len⟩
/-- a callee's exceptions pass -/
theorem passE : Passes (L2.CX (blkE X s3 H3 scope ce fp E).prog (blkE X s3 H3 scope ce fp E).w) (blkE X s3 H3 scope ce fp E) E := fun pins σ H s e s' I c => ⟨pins, σ, H, s, outE I, c⟩
end
theorem frames_but {B B' h h' : Heap} {C : Addr} : ∀ {l : List Env}, h.FunFrames B l → (∀ b o, B'.get? b = some o → B.get? b = some o) → (∀ b, b ≠ C → h'.get? b = h.get? b) → C ∉ frs l → h'.FunFrames B' l
  | [], _, _, _, _ => trivial
  | env :: l, hf, hB, hs, hC => by
    obtain ⟨hk, ⟨L, o, e1, e2, e3, e4⟩, hr⟩ := hf
    have hL : L ≠ C := fun z => hC (by rw [← z]; exact List.mem_filterMap.mpr ⟨env, List.mem_cons_self, e1⟩)
    refine ⟨hk, ⟨L, o, e1, ?_, by rw [hs L hL]; exact e3, e4⟩, frames_but hr hB hs fun hm => hC ?_⟩
    · cases q : B'.get? L with
      | none => rfl
      | some o' => rw [hB _ _ q] at e2; cases e2
    · obtain ⟨e, he, q⟩ := List.mem_filterMap.mp hm
      exact List.mem_filterMap.mpr ⟨e, List.mem_cons_of_mem _ he, q⟩
section
variable {M : Model} {A : Around} {E₁ : Value → Shared → Prop} {env : Env} {outer : List Env} {L a : Addr} {Z : Obj → Prop} {Q : Unit → Shared → Prop} {B : Heap} {s : Shared}
theorem note_air (hZ : HandSPX.Steady Z) (hfr : A.frames = some (env :: outer)) (hf : env.frame = some L) (x : Sky B (env :: outer) a Z L s.heap)
    (hQ : ∀ h', HandSPX.HeldZ B (env :: outer) a Z L h' → s.heap.UpToSlots h' → Q () { s with heap := h' }) : wpAny M A (noteFrame (.ref a) env) Q E₁ s := by
  rcases x with ⟨hB, hn, hl, oe, vs, he, hz, hd, h1⟩ | fl | hh
  · exact HandSPX.look_newZ hZ hfr hl hf he hB hn hd h1 hz hQ
  · exact HandSPX.looks_onZ hZ hfr hf fl hQ
  · exact HandSPX.againZ hf hh.2.2.2 (hQ s.heap hh (Heap.UpToSlots.refl _))
end
/-- a block's exception goes on in the def's own frame -/
theorem air_out {X : Cx} {s3 : Shared} {H3 : Hp} {scope : Scope} {ce : Env} {fp : List Addr} {E : XK} {pins : List (Addr × Obj)} {σ0 : L2.St} {u : Value} {s' : Shared}
    (hs : X.stack = X.env :: X.outer) (hf : X.env.frame = some X.env.locals) (tk : Takes X fun cls d _ H => E cls d H) (I3 : Inv X pins σ0 H3 s3) (f3 : ∀ b ∈ fp, FpOk X pins H3 b) (cL : ce.locals = s3.heap.objs.size) (cf : ce.frame = X.env.frame)
    (x : Flies (X.blk s3 H3 scope ce fp) E u s') : notedBy (model X.prog X.w) X.A ce (CompFails (model X.prog X.w) X.A X.xe ce) u s' := by
  obtain ⟨pins1, σ1, H1, s1, I1, a, B0, H', cls, d, rfl, fl0, hok0, ub0, na0, os0, ag0, hE0⟩ := x
  generalize hCC : s3.heap.objs.size = C at cL
  -- the block's own dict of names
  have I1X : Inv X pins σ0 H1 s1 := I3.call' (ch := fp) I1.os I1.base I1.hok I1.bare fun b hb => ⟨(f3 b hb).2.2.2.1, (f3 b hb).2.1, (f3 b hb).2.2.2.2.1, (f3 b hb).2.2.2.2.2⟩
  have nC1 : H1 C = none := by
    have z : H1 ce.locals = none := I1.free
    rw [cL] at z; exact z
  have fC : FpOk X pins H1 C := I3.fpOk (Nat.le_of_eq hCC) nC1
  have nfr : C ∉ frs X.stack := fun hm => by
    rcases List.mem_cons.mp (I3.stkSub C hm) with z | z
    · exact fC.2.1 z
    · exact fC.2.2.1 z
  obtain ⟨m, hm, _⟩ := I1.loc
  have hm : s1.heap.Ns ce.locals m := hm
  rw [cL] at hm
  obtain ⟨oC, es, ep, hoC, hdC, hrC⟩ := id hm
  have hoB : B0.get? C = some oC := ub0.keep C oC hoC nC1 nfr
  have hoS : s'.heap.get? C = some oC := fl0.1 C oC hoB
  have nC' : H' C = none := ub0.free C oC hoC nC1
  have ns' : s'.heap.Ns C m := ⟨oC, es, ep, hoS, hdC, hrC⟩
  have cx : L2.CX X.prog X.w X.stack H1 s1 (fun c d H9 => E c d H9 ∧ H9 C = none) (.ref a) s' := ⟨a, B0, H', cls, d, rfl, fl0, hok0, ub0, na0, os0, ag0, hE0, nC'⟩
  have air : XE X (fun c d _ H9 => E c d H9 ∧ H9 C = none) (.ref a) s' := XE.of_call (W := fun c d _ H9 => E c d H9 ∧ H9 C = none) I1X (fun _ _ _ h => h) cx
  obtain ⟨a', B, sI, pins2, σ2, H2, cls2, d2, ea, I2, nb, up, sky, na, os, ag, w, nC2⟩ := air
  obtain rfl : a = a' := Value.ref.inj ea
  have hfr : X.A.frames = some (X.env :: X.outer) := by rw [I3.ok.frames, hs]
  rw [hs] at sky
  show wpAny _ _ (noteFrame (.ref a) ce) _ _ s'
  rw [show noteFrame (.ref a) ce = noteFrame (.ref a) X.env from by unfold noteFrame PySem.frameOf; rw [cf]]
  refine note_air Zc.steady hfr hf sky fun h1 hh up1 => ?_
  have nsl : h1.Ns C m := ns'.upToSlots up1
  refine ⟨m, by rw [cL]; exact nsl, fun h2 m2 _ sb => ?_⟩
  rw [cL] at sb
  -- the ground without the block's dict
  obtain ⟨b1, b2, b3, oe, vs, T, oT, ts, t1, t2, t3, t4, t5, t6, t7, t8, t9⟩ := hh
  obtain ⟨oC1, _, _, hoC1, hdC1, _⟩ := id nsl
  have aC : a ≠ C := fun z => by
    rw [z, hoC1] at t1
    obtain rfl := Option.some.inj t1
    rw [hdC1] at t3; cases t3
  have TC : T ≠ C := fun z => by
    rw [z, hoC1] at t7
    obtain rfl := Option.some.inj t7
    rw [hdC1] at t8; cases t8
  have subB : ∀ b o, (PySem.W.hideAll B [C]).get? b = some o → B.get? b = some o ∧ b ≠ C := fun b o e => ⟨PySem.W.of_hideAll _ e, fun z => by
    rw [PySem.W.hideAll_none [C] (by simp [z])] at e; cases e⟩
  have none' : ∀ b, B.get? b = none → (PySem.W.hideAll B [C]).get? b = none := fun b e => by
    cases q : (PySem.W.hideAll B [C]).get? b with
    | none => rfl
    | some o => rw [(subB b o q).1] at e; cases e
  have held : HandSPX.HeldZ (PySem.W.hideAll B [C]) (X.env :: X.outer) a (Zc cls2 d2) X.env.locals h2 := by
    refine ⟨fun b o e => ?_, none' a b2, frames_but b3 (fun b o e => (subB b o e).1) sb.2 (by rw [← hs]; exact nfr), oe, vs, T, oT, ts, by rw [sb.2 a aC]; exact t1, t2, t3, t4, none' T t5, t6, by rw [sb.2 T TC]; exact t7, t8, t9⟩
    rw [sb.2 b (subB b o e).2]
    exact b1 b o (subB b o e).1
  unfold PySem.passOn
  refine wpAny_bind (wpAny_field (s := { s' with heap := h2 }) (by show h2.get? a = some oe; rw [sb.2 a aC]; exact t1) t3 t4 ?_)
  rw [if_neg (show ¬ ((Value.ref T == Value.none) = true) from by simp)]
  rw [cf, hf]
  refine wpAny_bind (HandSPX.setFlight_onZ (s := { s' with heap := h2 }) held fun h4 held4 up4 => ?_)
  refine wpAny_throw (tk _ _ ?_)
  have I2u : Inv X [] σ2 H2 sI := Inv.unpinned (pins := []) (pl := pins2) I2
  have I2t : Inv X [] σ2 H2 { sI with heap := PySem.W.hideAll sI.heap [C], toks := sI.toks } := I2u.turned (t' := sI.toks) (fun b o hb e => PySem.W.hideAll_get [C] e (by simp [hb])) nC2 fC.2.1 fC.2.2.2.1 fC.2.2.2.2.1 fun p hp => fC.2.2.2.2.2 p (by
    rw [List.append_nil] at hp
    exact List.mem_append_left _ hp)
  refine ⟨a, PySem.W.hideAll B [C], _, [], σ2, H2, cls2, d2, rfl, I2t, fun b o e hb => ?_, fun b o e hnf => ?_, .inr (.inr (by rw [hs]; exact held4)), na, os, ag, w⟩
  · have e1 := PySem.W.of_hideAll [C] e
    have hbC : b ≠ C := fun z => by
      have e : (PySem.W.hideAll sI.heap [C]).get? b = some o := e
      rw [PySem.W.hideAll_none [C] (by simp [z])] at e; cases e
    exact PySem.W.hideAll_get [C] (nb b o e1 hb) (by simp [hbC])
  · have e : (PySem.W.hideAll sI.heap [C]).get? b = some o := e
    have e1 := PySem.W.of_hideAll [C] e
    have hbC : b ≠ C := fun z => by
      rw [PySem.W.hideAll_none [C] (by simp [z])] at e; cases e
    obtain ⟨sl1, q1⟩ := (up.trans up1) b o e1 hnf
    obtain ⟨sl4, q4⟩ := up4 b _ ((sb.2 b hbC).trans q1) hnf
    exact ⟨sl4, q4⟩
/-- the comprehension with a block that may let out what E says -/
theorem lcE_core {X : Cx} {pins : List (Addr × Obj)} {s : Shared} {σ : L2.St} {H : Hp} {Q : VK} {E : XK} {el tg it0 : Expr} {ifs : List Expr} {scope : Scope} {own : List (Str × Nat)} {pos pos' : Pos} {wi : TI} {g : TG} {tt : TT} {te : TE} {use : Option (Value → Sem Unit)} {Qf : Value → Shared → Prop}
    (hs : X.stack = X.env :: X.outer) (hf : X.env.frame = some X.env.locals) (tk : Takes X fun cls d _ H => E cls d H) (hc : X.calm = true) (hN : X.N.Nodup) (I : Inv X pins σ H s) (hi : PI X tg it0 wi) (ok : BlkOk X.N X.env.scope scope own)
    (hg : ∀ (s : Shared) (H : Hp) (C : Addr) (cl : List (Str × Addr)) (fp : List Addr), PG (blkE X s H scope (compEnvC scope cl C X.env) fp E) tg g)
    (ht : ∀ (s : Shared) (H : Hp) (C : Addr) (cl : List (Str × Addr)) (fp : List Addr), PTs (blkE X s H scope (compEnvC scope cl C X.env) fp E) ifs tt)
    (he : ∀ (s : Shared) (H : Hp) (C : Addr) (cl : List (Str × Addr)) (fp : List Addr), PE (blkE X s H scope (compEnvC scope cl C X.env) fp E) el te) (hsi : ∀ x, foldedSetIterable it0 X.env x = pure x)
    (h : tLc wi g tt te (own.map (·.2)) σ H Q)
    (hend : ∀ D C s' m H', Inv X pins σ H' s' → Q (.ref D) H' → s'.heap.Ns C m → FpOk X pins H' C → ∀ ce : Env, ce.locals = C → compEnds (model X.prog X.w) X.A X.xe use Qf (.ref D) ce (.ok .next) s') :
    wpAny (model X.prog X.w) X.A (comprehension (.ListComp el [⟨tg, it0, ifs, 0⟩] scope pos) scope X.env pos' (newList []) false (eval it0 X.env) use) Qf X.xe s := by
  have caps : ∀ y ∈ scope.names, y.2 = .free → ∃ c, X.env.cells.lookup y.1 = some c := fun y hy e => I.ok.has _ (ok.free y hy e)
  refine comprehension_at (use := use) rfl hsi (closure_ok caps) ok.kind (fun y hy e => (ok.uniq y hy).trans (congrArg some e)) (thn (hi.run pins s σ H _ I h) fun xv s1 hx => thn hx fun itv s2 h2 => ?_)
  obtain ⟨it, fp, tn, J, H2, rfl, I2, T, st2, f2, q⟩ := h2
  refine wpAny_newObj_type (newEnv_comp ?_) (by show 0 ≤ sizeLine; decide)
  have hDn : H2 s2.heap.objs.size = none := I2.hok.fresh (Nat.le_refl _)
  obtain ⟨W, ⟨m0, w0⟩, turn⟩ := q _ hDn
  obtain ⟨s3, hs3⟩ : ∃ s3 : Shared, ({ s2 with heap := s2.heap.push { cls := .type "list", data := .seq ([] : List Value).toArray } } : Shared) = s3 := ⟨_, rfl⟩
  have h3 : s3.heap = s2.heap.push { cls := .type "list", data := .seq ([] : List Value).toArray } := by rw [← hs3]
  have hup : ∀ b o, s2.heap.get? b = some o → s3.heap.get? b = some o := fun b o e => by rw [h3]; exact Heap.get?_push_of_some _ e
  have I3 : Inv X pins σ (upd H2 s2.heap.objs.size (.lst [])) s3 := by
    rw [← hs3]
    exact I2.laid (t' := s2.toks) (fun b o e => Heap.get?_push_of_some _ e) (Nat.le_refl _) ⟨Nat.zero_le _, [], 0, .nil, Heap.get?_push_size _ rfl⟩
  have small : ∀ b ∈ fp, b < s2.heap.objs.size := fun b hb => by
    obtain ⟨o, e, _⟩ := T.obj _ _ st2 b hb
    exact Heap.lt_size e
  have f3 : ∀ b ∈ fp, FpOk X pins (upd H2 s2.heap.objs.size (.lst [])) b ∧ b < s3.heap.objs.size := fun b hb => by
    have lt := small b hb
    exact ⟨⟨(upd_ne (Nat.ne_of_lt lt)).trans (f2 b hb).1, (f2 b hb).2⟩, by rw [h3, Heap.size_push]; exact Nat.lt_succ_of_lt lt⟩
  have st3 : tn 0 s3.heap := T.keep _ _ _ st2 fun b _ o e => hup b o e
  have I4 := block_start I3 ok hN f3
  have cf : ∀ cl C, (compEnvC scope cl C X.env).frame = X.env.frame := fun _ _ => rfl
  rw [hs3]
  generalize hD : s2.heap.objs.size = D at hDn w0 turn I3 f3 I4 ⊢
  generalize hcl : cellsFrom (s3.heap.objs.size + 1) scope.names (cloFrom X.env.cells scope.names []) = cl at I4 ⊢
  generalize hH3 : upd H2 D (.lst []) = H3 at I3 f3 I4 w0
  have pg := hg s3 H3 s3.heap.objs.size cl fp
  have pt := ht s3 H3 s3.heap.objs.size cl fp
  have pe := he s3 H3 s3.heap.objs.size cl fp
  show codeAny _ _ (.compStart (.ListComp el [⟨tg, it0, ifs, 0⟩] scope pos) 0 (.ref it) (.ref D) (compEnvC scope cl s3.heap.objs.size X.env)) (compEnds (model X.prog X.w) X.A X.xe use Qf (.ref D) (compEnvC scope cl s3.heap.objs.size X.env)) _
  obtain ⟨ce, hce⟩ : ∃ ce, compEnvC scope cl s3.heap.objs.size X.env = ce := ⟨_, rfl⟩
  have cL : ce.locals = s3.heap.objs.size := by rw [← hce]; rfl
  have cF : ce.frame = X.env.frame := by rw [← hce]; rfl
  rw [hce] at I4 pg pt pe ⊢
  obtain ⟨s4, hs4⟩ : ∃ s4 : Shared, ({ s3 with heap := pushCells (s3.heap.push { cls := .type "dict", data := .dict #[] }) scope.names } : Shared) = s4 := ⟨_, rfl⟩
  rw [hs4] at I4 ⊢
  have st4 : tn 0 s4.heap := T.keep _ _ _ st3 fun b _ o e => by rw [← hs4]; exact pushCells_keeps _ _ _ _ (Heap.get?_push_of_some _ e)
  have out : ∀ u s', (blkE X s3 H3 scope ce fp E).xe u s' → notedBy (model X.prog X.w) X.A ce (fun e s1 => compEnds (model X.prog X.w) X.A X.xe use Qf (.ref D) ce (.error e) s1) u s' := fun u s' x => by
    have a := air_out (E := E) hs hf tk I3 (fun b hb => (f3 b hb).1) cL cF x
    cases use <;> exact a
  have still : ∀ {σ' : L2.St} {H' : Hp} {s' : Shared}, Inv (blkE X s3 H3 scope ce fp E) [] σ' H' s' → (∀ b ∈ fp, H' b = none) → ∀ b ∈ fp, FpOk (blkE X s3 H3 scope ce fp E) [] H' b := fun {σ' H' s'} I' hn b hb =>
    ⟨hn b hb, (I'.ok.exf b hb).1, I'.ok.exfs b hb, .inl hb, fun x c e => (I'.ok.exf b hb).2 x c e, fun p hp => nomatch hp⟩
  have go : ∀ {α : Type} {t : Sem α} {P P' : α → Shared → Prop} {s' : Shared}, wpAny (model X.prog X.w) X.A t P (blkE X s3 H3 scope ce fp E).xe s' → (∀ a s1, P a s1 → P' a s1) →
      wpAny (model X.prog X.w) X.A t P' (notedBy (model X.prog X.w) X.A ce fun e s1 => compEnds (model X.prog X.w) X.A X.xe use Qf (.ref D) ce (.error e) s1) s' := fun h k => wpAny_mono h k out
  have loop : codeAny (model X.prog X.w) X.A (.compLoop (.ListComp el [⟨tg, it0, ifs, 0⟩] scope pos) 0 (.ref it) (.ref D) ce) (compEnds (model X.prog X.w) X.A X.xe use Qf (.ref D) ce) s4 := by
    refine compLoop_any (fun n s' => ∃ i H', Inv (blkE X s3 H3 scope ce fp E) [] (wipe σ (own.map (·.2))) H' s' ∧ tn i s'.heap ∧ (∀ b ∈ fp, H' b = none) ∧ W i n H') ?_ m0 ⟨0, H3, inE I4, st4, fun b hb => (f3 b hb).1.1, w0⟩
    rintro n s5 ⟨i, H5, I5, st5, n5, w5⟩
    rcases turn i n H5 w5 with ⟨stop, qq⟩ | ⟨goes, Nx, hNx, step⟩
    · refine go (T.done (blkE X s3 H3 scope ce fp E) rfl rfl rfl hc i [] s5 _ H5 _ I5 (still I5 n5) st5 stop) fun r s6 ⟨hr, I6⟩ => ?_
      subst hr
      have I7 : Inv X pins σ H5 s6 := I3.call' (ch := fp) I6.os I6.base I6.hok I6.bare fun b hb => let z := (f3 b hb).1; ⟨z.2.2.2.1, z.2.1, z.2.2.2.2.1, z.2.2.2.2.2⟩
      obtain ⟨m, hn, _⟩ := I6.loc
      have hn : s6.heap.Ns ce.locals m := hn
      have hfree : H5 ce.locals = none := I6.free
      rw [cL] at hn hfree
      exact hend D s3.heap.objs.size s6 m H5 I7 qq hn (I3.fpOk (Nat.le_refl _) hfree) ce cL
    · refine go (T.item (blkE X s3 H3 scope ce fp E) rfl rfl rfl hc i [] s5 _ H5 _ I5 (still I5 n5) st5 goes) fun r s6 ⟨u, hr, h6⟩ => ?_
      subst hr
      refine go h6 fun _ s7 ⟨x, H7, I7, r7, y7, st7, n7⟩ => ?_
      refine go (pg.run _ s7 _ H7 x u _ (I7.pinned (still I7 n7) (T.obj _ _ st7)) r7 (step x H7 y7)) fun _ s8 ⟨σ8, H8, I8, hw8, q8⟩ => ?_
      refine go (pt.run _ s8 σ8 H8 _ I8 q8) fun b s9 ⟨H9, I9, q9⟩ => ?_
      have back : ∀ {s' : Shared} {H' : Hp}, Inv (blkE X s3 H3 scope ce fp E) ([] ++ pinsAt fp s7.heap) σ8 H' s' → Nx H' → ∃ m, m < n ∧ ∃ i H', Inv (blkE X s3 H3 scope ce fp E) [] (wipe σ (own.map (·.2))) H' s' ∧ tn i s'.heap ∧ (∀ b ∈ fp, H' b = none) ∧ W i m H' := fun {s' H'} I' nx => by
        obtain ⟨m', lt, w'⟩ := hNx H' nx
        have pinned : ∀ b ∈ fp, ∀ o, s7.heap.get? b = some o → s'.heap.get? b = some o ∧ H' b = none := fun b hb o e => by
          have z := I'.pin (b, o) (List.mem_append_right _ (List.mem_append_right _ (mem_pinsAt hb e)))
          exact ⟨z.1, z.2.1⟩
        have len8 : (wipe σ (own.map (·.2))).length = σ8.length := (congrArg List.length hw8).symm.trans (wipe_length _ _)
        refine ⟨m', lt, i + 1, H', (Inv.unpinned (pins := []) I').weak len8 fun j v e => (wipe_some (by rw [← hw8] at e; exact e)).1, T.keep _ _ _ st7 fun b hb o e => (pinned b hb o e).1, fun b hb => ?_, w'⟩
        obtain ⟨o, e, _⟩ := T.obj _ _ st7 b hb
        exact (pinned b hb o e).2
      cases b with
      | false => exact back I9 q9
      | true =>
        refine go (pe.run _ s9 σ8 H9 _ I9 q9) fun z s10 ⟨yv, H10, I10, r10, acc, hD10, hz10, nx⟩ => ?_
        exact app_ok (X := blkE X s3 H3 scope ce fp E) I10 hD10 hz10 r10 fun s11 I11 => back I11 nx
  exact codeAny_compStart_list loop (T.self X.A 0 _ _ _ st4 loop)
section
variable {X : Cx} {E : XK}
/-- [..] as a value, what the element lets out leaves the def -/
theorem pe_lcE {el tg it0 : Expr} {ifs : List Expr} {scope : Scope} {own : List (Str × Nat)} {pos : Pos} {wi : TI} {g : TG} {tt : TT} {te : TE} (hs : X.stack = X.env :: X.outer) (hf : X.env.frame = some X.env.locals) (tk : Takes X fun cls d _ H => E cls d H)
    (hc : X.calm = true) (hN : X.N.Nodup) (hi : PI X tg it0 wi) (ok : BlkOk X.N X.env.scope scope own)
    (hg : ∀ (s : Shared) (H : Hp) (C : Addr) (cl : List (Str × Addr)) (fp : List Addr), PG (blkE X s H scope (compEnvC scope cl C X.env) fp E) tg g)
    (ht : ∀ (s : Shared) (H : Hp) (C : Addr) (cl : List (Str × Addr)) (fp : List Addr), PTs (blkE X s H scope (compEnvC scope cl C X.env) fp E) ifs tt)
    (he : ∀ (s : Shared) (H : Hp) (C : Addr) (cl : List (Str × Addr)) (fp : List Addr), PE (blkE X s H scope (compEnvC scope cl C X.env) fp E) el te) (hsi : ∀ x, foldedSetIterable it0 X.env x = pure x := by intro _; rfl) :
    PE X (.ListComp el [⟨tg, it0, ifs, 0⟩] scope pos) (tLc wi g tt te (own.map (·.2))) := by
  refine ⟨fun pins s σ H Q I h => ?_⟩
  rw [eval_ListComp]
  refine lcE_core hs hf tk hc hN I hi ok hg ht he hsi h fun D C s' m H' I' q hn f ce ec => ⟨m, by rw [ec]; exact hn, fun h'' sb => ?_⟩
  rw [ec] at sb
  exact ⟨.ref D, H', I'.turned (t' := s'.toks) (fun b o hb e => (sb.2 b hb).trans e) f.1 f.2.1 f.2.2.2.1 f.2.2.2.2.1 f.2.2.2.2.2, rfl, q⟩
/-- x = [..], x a local name -/
theorem ps_setLcE {i : Nat} {y : Str} {py : Pos} {el tg it0 : Expr} {ifs : List Expr} {scope : Scope} {own : List (Str × Nat)} {pos spos : Pos} {wi : TI} {g : TG} {tt : TT} {te : TE} (hs : X.stack = X.env :: X.outer) (hf : X.env.frame = some X.env.locals) (tk : Takes X fun cls d _ H => E cls d H)
    (hc : X.calm = true) (hN : X.N.Nodup) (hy : X.N[i]? = some y) (hyl : X.env.scope.names.lookup y = some .local)
    (hsw : swapsWith (.ListComp el [⟨tg, it0, ifs, 0⟩] scope pos) (some (.Name y py)) spos.line X.env = pure true) (hi : PI X tg it0 wi) (ok : BlkOk X.N X.env.scope scope own)
    (hg : ∀ (s : Shared) (H : Hp) (C : Addr) (cl : List (Str × Addr)) (fp : List Addr), PG (blkE X s H scope (compEnvC scope cl C X.env) fp E) tg g)
    (ht : ∀ (s : Shared) (H : Hp) (C : Addr) (cl : List (Str × Addr)) (fp : List Addr), PTs (blkE X s H scope (compEnvC scope cl C X.env) fp E) ifs tt)
    (he : ∀ (s : Shared) (H : Hp) (C : Addr) (cl : List (Str × Addr)) (fp : List Addr), PE (blkE X s H scope (compEnvC scope cl C X.env) fp E) el te) (hsi : ∀ x, foldedSetIterable it0 X.env x = pure x := by intro _; rfl) :
    PS X (.Assign [.Name y py] (.ListComp el [⟨tg, it0, ifs, 0⟩] scope pos) spos) (tAsg (tLc wi g tt te (own.map (·.2))) (gName i)) := by
  refine ⟨fun pins s σ H D I h => ?_⟩
  rw [exec_Assign_Name_used _ _ _ _ hsw]
  refine wpAny_bind (wpAny_standAt (wpAny_bind ?_))
  have h : tLc wi g tt te (own.map (·.2)) σ H (fun x H1 => gName i x σ H1 D.nx) := h
  refine wpAny_bind (thn (lcE_core (Qf := fun _ s' => SP X pins D .next s') (use := some (assign (.Name y py) X.env)) hs hf tk hc hN I hi ok hg ht he hsi h fun L C s' m H' I' q hn f ce ec => ?_) fun _ s' hq => wpAny_pure (wpAny_pure hq))
  refine wpAny_assign_Name (store_ok2 (v := V.ref L) I' hN hy (.inl hyl) rfl (fun s2 I2 ⟨a, sb, ha⟩ => ?_) (.inr hyl))
  have hCa : C ≠ a := by
    rcases ha with z | z
    · rw [z]; exact f.2.1
    · exact fun e => f.2.2.2.2.1 y a z e.symm
  refine ⟨m, by rw [ec]; exact hn.sameBut sb hCa, fun h9 sb9 => ?_⟩
  rw [ec] at sb9
  exact ⟨_, H', I2.turned (t' := s2.toks) (fun b o hb e => (sb9.2 b hb).trans e) f.1 f.2.1 f.2.2.2.1 f.2.2.2.2.1 f.2.2.2.2.2, q⟩
end
end Mur
/-! A table of the module's top with texts as keys and ints as values: d.get(text). -/
namespace Mur
open PySem hiding start
open PySem.Spec L2
open PyProof.Rows hiding St
def entOf (e : DictEntry) : Option (Str × Int × Int) := match e.key with
  | .str x _ => (match e.val with
    | .int i _ => some (x, e.hash, i)
    | _ => none)
  | _ => none
def tabIn (P : Params) (kvs : List (Str × Int)) : List (Option (Str × Int × Int)) := kvs.map fun q => some (q.1, PyData.keyHash P q.1, q.2)
def tabW (K : PySem.W.Frag) (a : Addr) : Option (List (Option (Str × Int × Int))) := match K.lookup a with
  | some ⟨.type c, none, .dict es _, sl⟩ => (match decide (c = "dict") && (sl.isEmpty && !(a == sysModules)) with
    | true => some (es.toList.map entOf)
    | false => none)
  | _ => none
def tabV (kvs : List (Str × Int)) (z : Str) : V := match kvs.lookup z with
  | some i => .int i
  | none => .non
/-- at d: a written table -/
def Tabl (K : PySem.W.Frag) (w : World) (d : Addr) (kvs : List (Str × Int)) : Prop := ∃ es n, KDict K w d es n ∧ ∀ z : Str, ∃ r : Option Value, PySem.W.nsIn K d z = some r ∧ RelV (tabV kvs z) (r.getD .none)
theorem ent_of {e : DictEntry} {x : Str} {h i : Int} (q : entOf e = some (x, h, i)) : (∃ t, e.key = .str x t) ∧ (∃ t, e.val = .int i t) ∧ e.hash = h := by
  unfold entOf at q
  cases hk : e.key with
  | str y t =>
    rw [hk] at q
    cases hv : e.val with
    | int j u =>
      rw [hv] at q
      have q : some (y, e.hash, j) = some (x, h, i) := q
      injection q with q
      injection q with q1 q2
      injection q2 with q2 q3
      exact ⟨⟨t, by rw [q1]⟩, ⟨u, by rw [q3]⟩, q2⟩
    | _ => rw [hv] at q; cases q
  | _ => rw [hk] at q; cases q
theorem tab_lit {P : Params} : ∀ {l : List DictEntry} {kvs : List (Str × Int)}, l.map entOf = tabIn P kvs → PySem.W.KeysLit P l
  | [], _, _ => trivial
  | e :: r, [], h => by cases h
  | e :: r, kv :: kvs, h => by
    have h1 : entOf e :: r.map entOf = some (kv.1, PyData.keyHash P kv.1, kv.2) :: tabIn P kvs := h
    injection h1 with h2 h3
    obtain ⟨⟨t, e1⟩, _, e3⟩ := ent_of h2
    exact ⟨⟨kv.1, t, e1, e3⟩, tab_lit h3⟩
theorem tab_find {P : Params} (z : Str) : ∀ {l : List DictEntry} {kvs : List (Str × Int)}, l.map entOf = tabIn P kvs →
    (∃ e i t, l.find? (·.key.isStr z) = some e ∧ e.val = .int i t ∧ kvs.lookup z = some i) ∨ (l.find? (·.key.isStr z) = none ∧ l.any (·.refKey) = false ∧ kvs.lookup z = none)
  | [], [], _ => .inr ⟨rfl, rfl, rfl⟩
  | [], _ :: _, h => by cases h
  | e :: r, [], h => by cases h
  | e :: r, kv :: kvs, h => by
    have h1 : entOf e :: r.map entOf = some (kv.1, PyData.keyHash P kv.1, kv.2) :: tabIn P kvs := h
    injection h1 with h2 h3
    obtain ⟨⟨t, e1⟩, ⟨u, e2⟩, e3⟩ := ent_of h2
    have ik : e.key.isStr z = decide (kv.1 = z) := by
      rw [e1]
      by_cases q : kv.1 = z
      · subst q
        rw [decide_eq_true rfl]
        exact beq_self_eq_true _
      · rw [decide_eq_false q]
        exact beq_eq_false_iff_ne.mpr q
    by_cases q : kv.1 = z
    · subst q
      exact .inl ⟨e, kv.2, u, by rw [List.find?_cons, ik, decide_eq_true rfl], e2, by rw [List.lookup_cons]; simp⟩
    · have nb : (z == kv.1) = false := by simpa using fun x => q x.symm
      have e5 : (kv :: kvs).lookup z = kvs.lookup z := by rw [List.lookup_cons, nb]
      have e6 : (e :: r).find? (·.key.isStr z) = r.find? (·.key.isStr z) := by rw [List.find?_cons, ik, decide_eq_false q]
      rw [e5, e6]
      rcases tab_find z h3 with c | ⟨c1, c2, c3⟩
      · exact .inl c
      · refine .inr ⟨c1, ?_, c3⟩
        rw [List.any_cons, c2, Bool.or_false]
        unfold DictEntry.refKey
        rw [e1]
theorem tabW_ok {K : PySem.W.Frag} {w : World} {a : Addr} {kvs : List (Str × Int)} (h : tabW K a = some (tabIn w.params kvs)) : Tabl K w a kvs := by
  unfold tabW at h
  cases q : K.lookup a with
  | none => rw [q] at h; cases h
  | some o =>
    obtain ⟨oc, od, dt, osl⟩ := o
    rw [q] at h
    cases oc with
    | type c =>
      cases od with
      | none =>
        cases dt with
        | dict es n =>
          have h1 : (match decide (c = "dict") && (osl.isEmpty && !(a == sysModules)) with
            | true => some (es.toList.map entOf)
            | false => none) = some (tabIn w.params kvs) := h
          cases z : decide (c = "dict") && (osl.isEmpty && !(a == sysModules)) with
          | false => rw [z] at h1; cases h1
          | true =>
            rw [z] at h1
            obtain ⟨z1, z2⟩ := He.ba z
            obtain ⟨z3, z4⟩ := He.ba z2
            have e1 : c = "dict" := of_decide_eq_true z1
            have e2 : osl = #[] := Array.isEmpty_iff.mp z3
            have e3 : (a == sysModules) = false := by
              cases y : a == sysModules with
              | false => rfl
              | true => rw [y] at z4; cases z4
            subst e1 e2
            have hl := Option.some.inj h1
            refine ⟨es, n, ⟨q, tab_lit hl, e3⟩, fun z => ?_⟩
            have hn : PySem.W.nsIn K a z = (match es.toList.find? (·.key.isStr z) with
              | some e => some (some e.val)
              | none => if es.toList.any (·.refKey) then none else some none) := by
              unfold PySem.W.nsIn
              rw [q]
              rfl
            rcases tab_find z hl with ⟨e, i, t, c1, c2, c3⟩ | ⟨c1, c2, c3⟩
            · refine ⟨some e.val, by rw [hn, c1], ?_⟩
              unfold tabV
              rw [c3, Option.getD_some, c2]
              exact ⟨t, rfl⟩
            · refine ⟨none, by rw [hn, c1, c2]; rfl, ?_⟩
              unfold tabV
              rw [c3]
              rfl
        | _ => cases h
      | some b => cases dt <;> cases h
    | _ => cases od <;> cases dt <;> cases h
/-- d.get(text) -/
def tKGet (K : PySem.W.Frag) (w : World) (td ty : TE) : TE := fun σ H Q => td σ H fun x H1 => ∃ d kvs, x = .ref d ∧ Tabl K w d kvs ∧ ty σ H1 fun y H2 => ∃ z, y = .str z ∧ Q (tabV kvs z) H2
section
variable {X : Cx} {o e f : Expr} {apos cpos : Pos} {td ty tx : TE}
theorem pe_kget1 (K : PySem.W.Frag) (w : World) (ho : PE X o td) (he : PE X e ty) (m : M1 X o "get" apos e cpos) (hK : X.K = K := by rfl) (hw : X.w = w := by rfl) : PE X (.Call (.Attribute o "get" apos) [e] [] cpos) (tKGet K w td ty) := by
  subst hK hw
  refine ⟨fun pins s σ H Q I h => ?_⟩
  refine wpAny_Call_method m.base m.few m.line PySem.F.plainAttrs_dict PySem.F.slot_dict_get PySem.F.type_dict_get (thn (ho.run pins s σ H _ I h) fun u s1 ⟨x, H1, I1, rx, d, kvs, ex, tb, q1⟩ => ?_)
  subst ex
  obtain rfl : u = Value.ref d := rx
  obtain ⟨es, n, D, all⟩ := tb
  refine ⟨kd_type D I1, fun b hb => ?_, ?_⟩
  · cases hb
    exact ⟨_, I1.kIn _ _ D.at_, rfl⟩
  rw [m.trees]
  refine Calls.callWith_builtin rfl (Calls.evalArgs_plain (Calls.spliced_cons (thn (he.run pins s1 σ H1 _ I1 q1) fun iv s2 ⟨y, H2, I2, ry, z, ey, q2⟩ => Calls.spliced_nil ?_)))
  subst ey
  obtain ⟨t, rfl⟩ := (show ∃ t, iv = Value.str z t from ry)
  obtain ⟨r, hr, rel⟩ := all z
  have hm := PySem.W.mapOf_K (prog := X.prog) (w := X.w) I2.kIn D.at_ D.lit
  refine call_meetsIn PySem.F.slot_dict_get hm.typeIs PySem.F.entry_dict_get (PySem.F.args_dict_get_2 _ _) (meets_dict_get (PySem.strKind X.prog X.w) d (PySem.strKind_is X.prog X.w z t) D.low) ⟨_, hm, ?_⟩
  have ef : PySem.findBy Value.isStrOf es z = r := PySem.W.find_K D.at_ hr
  show EP X pins σ Q ((PySem.findBy Value.isStrOf es z).getD .none) _
  rw [ef]
  exact ⟨_, H2, I2.tok _, rel, q2⟩
end
theorem z_kget {K : PySem.W.Frag} {w : World} {td ty : TE} {σ : L2.St} {H : Hp} {Q : VK} (h : td σ H fun x H1 => ∃ d kvs, x = .ref d ∧ Tabl K w d kvs ∧ ty σ H1 fun y H2 => ∃ z, y = .str z ∧ Q (tabV kvs z) H2) : tKGet K w td ty σ H Q := h
/-! the head that looks at the table, too -/
abbrev AlV : Type := He.AlD × Option (List (Option (Str × Int × Int)))
section
variable (n : Nat) (fa : List He.Fa) (fn : List He.DefD) (x : Str) (kvs : List (Str × Int))
def obsV (K : PySem.W.Frag) : AlV := (He.obsD fa fn K, tabW K (He.ga K x))
def valVw (w : World) : AlV := (He.valD fn, some (tabIn w.params kvs))
def obsVG (g : Addr → Option Obj) : AlV := obsV fa fn x (He.frG g (He.asD g n))
def SaysV (w : World) (K : PySem.W.Frag) : Prop := obsV fa fn x K = valVw fn kvs w
def hookV : PySem.W.Hook where
  α := AlV
  obs := fun s => obsVG n fa fn x s.heap.get?
  val := fun w => valVw fn kvs w
  says := fun w h => ∃ K : PySem.W.Frag, K.In h ∧ SaysV fa fn x kvs w K
  of := fun _ _ e => ⟨_, He.frG_in, e⟩
  keeps := fun _ _ _ ⟨K, hK, c⟩ k => ⟨K, PySem.W.Frag.In.keeps hK k, c⟩
end
theorem obsVG_eq {n : Nat} {fa : List He.Fa} {fn : List He.DefD} {x : Str} {kvs : List (Str × Int)} {g : Addr → Option Obj} {s : Shared} (h : ∀ a, g a = s.heap.get? a) : obsVG n fa fn x g = (hookV n fa fn x kvs).obs s := by
  have e : g = s.heap.get? := funext h
  rw [e] <;> rfl
theorem SaysV.d {fa : List He.Fa} {fn : List He.DefD} {x : Str} {kvs : List (Str × Int)} {w : World} {K : PySem.W.Frag} (c : SaysV fa fn x kvs w K) : He.SaysD fa fn K := congrArg (fun z : AlV => z.1) c
theorem SaysV.t {fa : List He.Fa} {fn : List He.DefD} {x : Str} {kvs : List (Str × Int)} {w : World} {K : PySem.W.Frag} (c : SaysV fa fn x kvs w K) : Tabl K w (He.ga K x) kvs := tabW_ok (congrArg (fun z : AlV => z.2) c)
/-! more readings step by step -/
section
variable {K : PySem.W.Frag} {σ : L2.St} {H : Hp} {Q : VK} {a b : Addr} {xs ys : List V}
theorem cutV_all {xs : List V} {lo hi : Option Int} (h : HT.sIx xs.length 0 lo = 0 ∧ HT.sIx xs.length xs.length hi = xs.length) : cutV xs lo hi = xs := by
  unfold cutV
  rw [h.1, h.2, List.drop_zero, Nat.sub_zero, List.take_of_length_le (Nat.le_refl _)]
/-- a slice of a tuple -/
theorem z_slT {lo hi : Option Int} (h : H a = some (.tup xs)) (e : cutV xs lo hi = ys) (k : ∀ p H', Same H H' → H' p = some (.tup ys) → Q (.ref p) H') : rSlA K (.ref a) lo hi H Q :=
  ⟨a, xs, rfl, SqT.of h, fun w => k a H (Same.refl H) (by rw [← e, cutV_all w]; exact h), fun _ p hp => k p _ (Same.new hp) (by rw [e]; exact upd_same)⟩
/-- tuple + tuple -/
theorem z_catT (h1 : H a = some (.tup xs)) (h2 : H b = some (.tup ys)) (c : xs.length + ys.length ≤ sizeLine) (k : ∀ p H', Same H H' → H' p = some (.tup (xs ++ ys)) → Q (.ref p) H') : rAddU K (.ref a) (.ref b) H Q :=
  .inr (.inr (.inr ⟨a, b, xs, ys, rfl, rfl, SqT.of h1, SqT.of h2, c, fun e => k b H (Same.refl H) (by rw [e, List.nil_append]; exact h2), fun _ e => k a H (Same.refl H) (by rw [e, List.append_nil]; exact h1), fun _ _ p hp => k p _ (Same.new hp) upd_same⟩))
theorem z_dpop {td ty : TE} (h : td σ H fun x H1 => ∃ a, x = .ref a ∧ IsD H1 a ∧ ty σ H1 fun y H2 => ∃ kvs k v, H2 a = some (.dK kvs) ∧ y = kV k ∧ valV kvs k = some v ∧ Q v (upd H2 a (.dK (dropK kvs k)))) : tDPop1 td ty σ H Q := h
theorem z_dget1 {td ty : TE} (h : td σ H fun x H1 => ∃ a, x = .ref a ∧ IsD H1 a ∧ ty σ H1 fun y H2 => ∃ o, DGet H2 a y o ∧ Q (o.getD .non) H2) : tDGet1 td ty σ H Q := h
theorem z_chainI {i j : Int} {b : Bool} {R : Bool → Prop} (e : decide (i < j) = b) (k : R b) : R (decide (i < j)) := by rw [e]; exact k
end
/-- two ways of an if that meet again -/
theorem z_joinIf {tt : TT} {ts tu : TS} {D : Ends} {σ : L2.St} {H : Hp} {R : L2.St → Hp → Prop} (h : ∀ D' : Ends, (∀ σ' H', R σ' H' → D'.nx σ' H') → (∀ v H', D.rt v H' → D'.rt v H') → tIfS tt ts tu D' σ H) (k : ∀ σ' H', R σ' H' → D.nx σ' H') : tIfS tt ts tu D σ H := h D k fun _ _ h => h
theorem k_revL {X : Cx} {e : Expr} {te : TE} {k : Nat} {p1 p2 p3 pos : Pos} (K : PySem.W.Frag) (he : PE X e te) (hK : X.K = K := by rfl) : PE X (.Subscript e (.Slice none none (some (.UnaryOp .USub (.Constant (.int 1) k p1) p2)) p3) pos) (tRevL K te) := by subst hK; exact pe_revL he
def rRevL (K : PySem.W.Frag) : V → Hp → VK → Prop := fun x H1 Q => ∃ a xs, x = .ref a ∧ SqL K H1 a xs ∧ ∀ p, H1 p = none → Q (.ref p) (upd H1 p (.lst xs.reverse))
theorem z_revL {K : PySem.W.Frag} {σ : L2.St} {H : Hp} {Q : VK} {te : TE} (h : te σ H fun x H1 => rRevL K x H1 Q) : tRevL K te σ H Q := h
theorem z_revLR {K : PySem.W.Frag} {H : Hp} {Q : VK} {a : Addr} {xs : List V} (h : SqL K H a xs) (k : ∀ p, H p = none → Q (.ref p) (upd H p (.lst xs.reverse))) : rRevL K (.ref a) H Q := ⟨a, xs, rfl, h, k⟩
/-- equal data or not -/
theorem z_eqDv {K : PySem.W.Frag} {H : Hp} {Q : VK} {x y : V} {d e : PyData} (hx : Dv H x d) (hy : Dv H y e) (sd : SeqAt.shaped d = true) (se : SeqAt.shaped e = true) (k : Q (.bl (PyData.eqv d e)) H) : rEqU K x y H Q := .inr ⟨d, e, hx.dp, hy.dp, sd, se, k⟩
theorem z_neDv {K : PySem.W.Frag} {H : Hp} {Q : VK} {x y : V} {d e : PyData} (hx : Dv H x d) (hy : Dv H y e) (sd : SeqAt.shaped d = true) (se : SeqAt.shaped e = true) (k : Q (.bl (!PyData.eqv d e)) H) : rNeU K x y H Q := .inr ⟨d, e, hx.dp, hy.dp, sd, se, k⟩
end Mur
/-! The shop in the heap. -/
namespace Mur
open PySem hiding start
open PySem.Spec L2
open PyProof.Rows hiding St
structure Rod where
  n : Int
  f : Int
  t : Int
  l : Int
  deriving DecidableEq
inductive Deed where
  | gather (c t l : Int)
  | pull (r k : Int)
  | bundle (a b c d : Int)
  | turn (r t : Int)
  | cut (r l : Int)
  | fuse (a b : Int)
  | sell (r : Int)
  | waste (r : Int)
def Deed.name : Deed → Str
  | .gather _ _ _ => "gather"
  | .pull _ _ => "pull"
  | .bundle _ _ _ _ => "bundle"
  | .turn _ _ => "turn"
  | .cut _ _ => "cut"
  | .fuse _ _ => "fuse"
  | .sell _ => "sell"
  | .waste _ => "waste"
def Deed.args : Deed → List Int
  | .gather c t l => [c, t, l]
  | .pull r k => [r, k]
  | .bundle a b c d => [a, b, c, d]
  | .turn r t => [r, t]
  | .cut r l => [r, l]
  | .fuse a b => [a, b]
  | .sell r => [r]
  | .waste r => [r]
def Deed.vals (d : Deed) : List V := .str d.name :: d.args.map V.int
def Deed.data (d : Deed) : PyData := .tuple (.str d.name :: d.args.map PyData.int)
structure SS where
  rods : List Rod
  com : Int
  a0 : List Int
  a1 : List Int
  a2 : List Int
  bun : List Int
  deeds : List Deed
structure SP where
  d : Addr
  am : Addr
  l0 : Addr
  l1 : Addr
  l2 : Addr
  b : Addr
  dd : Addr
def SP.muts (q : SP) : List Addr := [q.d, q.l0, q.l1, q.l2, q.b, q.dd]
structure SB where
  dx : Addr
  q : SP
  lb : Addr
  la : Addr
  qs : List SP
  rs : List SP
  vs : List V
  ws : List V
def SB.muts (s : Addr) (B : SB) : List Addr := s :: B.lb :: B.la :: (B.q.muts ++ (B.qs.flatMap SP.muts ++ B.rs.flatMap SP.muts))
/-! ### rods in a dict -/
inductive RodsIn (H : Hp) : List (Key × V) → List Rod → Prop
  | nil : RodsIn H [] []
  | cons {a : Addr} {kvs : List (Key × V)} {r : Rod} {rs : List Rod} : H a = some (.tup [.int r.f, .int r.t, .int r.l]) → RodsIn H kvs rs → RodsIn H ((.inl r.n, .ref a) :: kvs) (r :: rs)
def findR (rs : List Rod) (n : Int) : Option Rod := rs.find? fun r => decide (r.n = n)
def setR (rs : List Rod) (r : Rod) : List Rod := rs.map fun x => if x.n = r.n then r else x
def dropR (rs : List Rod) (n : Int) : List Rod := rs.filter fun r => decide (r.n ≠ n)
theorem findR_n {rs : List Rod} {n : Int} {r : Rod} (h : findR rs n = some r) : r.n = n ∧ r ∈ rs := ⟨by simpa using List.find?_some h, List.mem_of_find?_eq_some h⟩
section
variable {H H' : Hp} {kvs : List (Key × V)} {rs : List Rod}
theorem RodsIn.stay (k : ∀ a xs, H a = some (.tup xs) → H' a = some (.tup xs)) (h : RodsIn H kvs rs) : RodsIn H' kvs rs := by
  induction h with
  | nil => exact .nil
  | cons e _ ih => exact .cons (k _ _ e) ih
theorem RodsIn.len (h : RodsIn H kvs rs) : kvs.length = rs.length := by
  induction h with
  | nil => rfl
  | cons _ _ ih => simp [ih]
theorem RodsIn.keys (h : RodsIn H kvs rs) : kvs.map (·.1) = (rs.map (·.n)).map Sum.inl := by
  induction h with
  | nil => rfl
  | cons _ _ ih => simp [ih]
theorem RodsIn.find (h : RodsIn H kvs rs) (n : Int) : (∃ r a, findR rs n = some r ∧ valV kvs (.inl n) = some (.ref a) ∧ H a = some (.tup [.int r.f, .int r.t, .int r.l]) ∧ r.n = n) ∨ (findR rs n = none ∧ valV kvs (.inl n) = none) := by
  induction h with
  | nil => exact .inr ⟨rfl, rfl⟩
  | @cons a kvs r rs e _ ih =>
    by_cases c : r.n = n
    · exact .inl ⟨r, a, by simp [findR, c], valV_pos (p := (Sum.inl r.n, V.ref a)) (by simp [c]), e, c⟩
    · have e1 : findR (r :: rs) n = findR rs n := by simp [findR, c]
      have e2 : valV (((.inl r.n, .ref a) : Key × V) :: kvs) (.inl n) = valV kvs (.inl n) := valV_neg (p := (Sum.inl r.n, V.ref a)) (by simp [c])
      rw [e1, e2]; exact ih
theorem RodsIn.snoc {a : Addr} {r : Rod} (h : RodsIn H kvs rs) (e : H a = some (.tup [.int r.f, .int r.t, .int r.l])) : RodsIn H (kvs ++ [(.inl r.n, .ref a)]) (rs ++ [r]) := by
  induction h with
  | nil => exact .cons e .nil
  | cons e1 _ ih => exact .cons e1 ih
theorem RodsIn.put {a : Addr} {r : Rod} (h : RodsIn H kvs rs) (e : H a = some (.tup [.int r.f, .int r.t, .int r.l])) (hin : (findR rs r.n).isSome = true) : RodsIn H (putK kvs (.inl r.n) (.ref a)) (setR rs r) := by
  have hany : (kvs.any fun kv => decide (kv.1 = .inl r.n)) = true := by
    rw [valV_any]
    rcases h.find r.n with ⟨_, _, _, e2, _⟩ | ⟨e1, _⟩
    · rw [e2]; rfl
    · rw [e1] at hin; cases hin
  unfold putK
  rw [if_pos hany]
  clear hany hin
  induction h with
  | nil => exact .nil
  | @cons b kvs x rs e1 _ ih =>
    simp only [List.map_cons, setR] at ih ⊢
    by_cases c : x.n = r.n
    · rw [if_pos (by rw [c]), if_pos c]
      have : ((Sum.inl x.n, V.ref a) : Key × V) = (Sum.inl r.n, V.ref a) := by rw [c]
      rw [this]
      exact .cons e ih
    · rw [if_neg (by simpa using c), if_neg c]
      exact .cons e1 ih
theorem RodsIn.add {a : Addr} {r : Rod} (h : RodsIn H kvs rs) (e : H a = some (.tup [.int r.f, .int r.t, .int r.l])) (hin : findR rs r.n = none) : RodsIn H (putK kvs (.inl r.n) (.ref a)) (rs ++ [r]) := by
  rcases h.find r.n with ⟨_, _, e1, _⟩ | ⟨_, e2⟩
  · rw [e1] at hin; cases hin
  · rw [putK_new _ e2]; exact h.snoc e
theorem RodsIn.drop (h : RodsIn H kvs rs) (n : Int) : RodsIn H (dropK kvs (.inl n)) (dropR rs n) := by
  induction h with
  | nil => exact .nil
  | @cons b kvs x rs e1 _ ih =>
    unfold dropK dropR at ih ⊢
    by_cases c : x.n = n
    · rw [List.filter_cons_of_neg (by simp [c]), List.filter_cons_of_neg (by simp [c])]; exact ih
    · rw [List.filter_cons_of_pos (by simpa using c), List.filter_cons_of_pos (by simpa using c)]
      exact .cons e1 ih
end
/-! ### stands -/
structure SnapAt (H : Hp) (q : SP) (st : SS) : Prop where
  d : ∃ kvs, H q.d = some (.dK kvs) ∧ RodsIn H kvs st.rods
  am : H q.am = some (.tup [.ref q.l0, .ref q.l1, .ref q.l2])
  l0 : H q.l0 = some (.lst (st.a0.map V.int))
  l1 : H q.l1 = some (.lst (st.a1.map V.int))
  l2 : H q.l2 = some (.lst (st.a2.map V.int))
  b : H q.b = some (.lst (st.bun.map V.int))
  dd : ∃ vs, H q.dd = some (.lst vs) ∧ DvAll H vs (st.deeds.map Deed.data)
def keptV (q : SP) (st : SS) : List V := [.ref q.d, .int st.com, .ref q.am, .ref q.b, .ref q.dd]
inductive KeptIn (H : Hp) : List V → List SP → List SS → Prop
  | nil : KeptIn H [] [] []
  | cons {t : Addr} {q : SP} {st : SS} {vs : List V} {qs : List SP} {sts : List SS} : H t = some (.tup (keptV q st)) → SnapAt H q st → KeptIn H vs qs sts → KeptIn H (.ref t :: vs) (q :: qs) (st :: sts)
theorem flat_ints : ∀ l : List Int, flatAll (l.map PyData.int) = true
  | [] => rfl
  | x :: l => by simp [flatAll, flat, flat_ints l]
theorem deed_flat (d : Deed) : flat d.data = true := by simp [Deed.data, flat, flatAll, flat_ints]
theorem deeds_flat : ∀ l : List Deed, flatAll (l.map Deed.data) = true
  | [] => rfl
  | x :: l => by simp [flatAll, deed_flat, deeds_flat l]
section
variable {H H' : Hp} {q : SP} {st : SS} {vs : List V} {qs : List SP} {sts : List SS}
theorem SnapAt.stay (h : SnapAt H q st) (k : ∀ a xs, H a = some (.tup xs) → H' a = some (.tup xs)) (m : ∀ a ∈ q.muts, ∀ o, H a = some o → H' a = some o) : SnapAt H' q st := by
  obtain ⟨⟨kvs, d1, d2⟩, am, l0, l1, l2, b, ⟨vs, e1, e2⟩⟩ := h
  exact ⟨⟨kvs, m _ (by simp [SP.muts]) _ d1, d2.stay k⟩, k _ _ am, m _ (by simp [SP.muts]) _ l0, m _ (by simp [SP.muts]) _ l1, m _ (by simp [SP.muts]) _ l2, m _ (by simp [SP.muts]) _ b, ⟨vs, m _ (by simp [SP.muts]) _ e1, dvAll_stay k (deeds_flat _) e2⟩⟩
theorem KeptIn.stay (h : KeptIn H vs qs sts) (k : ∀ a xs, H a = some (.tup xs) → H' a = some (.tup xs)) (m : ∀ a ∈ qs.flatMap SP.muts, ∀ o, H a = some o → H' a = some o) : KeptIn H' vs qs sts := by
  induction h with
  | nil => exact .nil
  | cons e s _ ih => exact .cons (k _ _ e) (s.stay k fun a ha => m a (by rw [List.flatMap_cons]; exact List.mem_append_left _ ha)) (ih fun a ha => m a (by rw [List.flatMap_cons]; exact List.mem_append_right _ ha))
theorem KeptIn.snoc {t : Addr} (h : KeptIn H vs qs sts) (e : H t = some (.tup (keptV q st))) (s : SnapAt H q st) : KeptIn H (vs ++ [.ref t]) (qs ++ [q]) (sts ++ [st]) := by
  induction h with
  | nil => exact .cons e s .nil
  | cons e1 s1 _ ih => exact .cons e1 s1 ih
theorem KeptIn.len (h : KeptIn H vs qs sts) : vs.length = sts.length ∧ qs.length = sts.length := by
  induction h with
  | nil => exact ⟨rfl, rfl⟩
  | cons _ _ _ ih => simp [ih.1, ih.2]
/-- not a tuple -/
def NoTup (o : HO) : Prop := ∀ xs, o ≠ .tup xs
theorem SnapAt.there (h : SnapAt H q st) : ∀ a ∈ q.muts, ∃ o, H a = some o ∧ NoTup o := by
  obtain ⟨⟨kvs, d1, d2⟩, am, l0, l1, l2, b, ⟨vs, e1, e2⟩⟩ := h
  intro a ha
  simp only [SP.muts, List.mem_cons, List.not_mem_nil, or_false] at ha
  rcases ha with rfl | rfl | rfl | rfl | rfl | rfl
  · exact ⟨_, d1, fun _ z => by cases z⟩
  · exact ⟨_, l0, fun _ z => by cases z⟩
  · exact ⟨_, l1, fun _ z => by cases z⟩
  · exact ⟨_, l2, fun _ z => by cases z⟩
  · exact ⟨_, b, fun _ z => by cases z⟩
  · exact ⟨_, e1, fun _ z => by cases z⟩
theorem KeptIn.there (h : KeptIn H vs qs sts) : ∀ a ∈ qs.flatMap SP.muts, ∃ o, H a = some o ∧ NoTup o := by
  induction h with
  | nil => intro a ha; simp at ha
  | cons e s _ ih =>
    intro a ha
    rw [List.flatMap_cons] at ha
    rcases List.mem_append.mp ha with z | z
    · exact s.there a z
    · exact ih a z
end
/-! ### the shop -/
abbrev fsShop (p d : V) (c : V) (am b dd lb la : V) : List (Str × V) := [("faces", p), ("standing", d), ("coming", c), ("amounts", am), ("bundles", b), ("deeds_done", dd), ("behind", lb), ("ahead", la)]
section
variable {p d c am b dd lb la : V}
theorem lkS_faces : (fsShop p d c am b dd lb la).lookup ("faces" : Str) = some p := by rfl
theorem ptS_faces {x : V} : putF ("faces" : Str) x (fsShop p d c am b dd lb la) = fsShop x d c am b dd lb la := by rfl
theorem lkS_standing : (fsShop p d c am b dd lb la).lookup ("standing" : Str) = some d := by rfl
theorem ptS_standing {x : V} : putF ("standing" : Str) x (fsShop p d c am b dd lb la) = fsShop p x c am b dd lb la := by rfl
theorem lkS_coming : (fsShop p d c am b dd lb la).lookup ("coming" : Str) = some c := by rfl
theorem ptS_coming {x : V} : putF ("coming" : Str) x (fsShop p d c am b dd lb la) = fsShop p d x am b dd lb la := by rfl
theorem lkS_amounts : (fsShop p d c am b dd lb la).lookup ("amounts" : Str) = some am := by rfl
theorem ptS_amounts {x : V} : putF ("amounts" : Str) x (fsShop p d c am b dd lb la) = fsShop p d c x b dd lb la := by rfl
theorem lkS_bundles : (fsShop p d c am b dd lb la).lookup ("bundles" : Str) = some b := by rfl
theorem ptS_bundles {x : V} : putF ("bundles" : Str) x (fsShop p d c am b dd lb la) = fsShop p d c am x dd lb la := by rfl
theorem lkS_deeds_done : (fsShop p d c am b dd lb la).lookup ("deeds_done" : Str) = some dd := by rfl
theorem ptS_deeds_done {x : V} : putF ("deeds_done" : Str) x (fsShop p d c am b dd lb la) = fsShop p d c am b x lb la := by rfl
theorem lkS_behind : (fsShop p d c am b dd lb la).lookup ("behind" : Str) = some lb := by rfl
theorem ptS_behind {x : V} : putF ("behind" : Str) x (fsShop p d c am b dd lb la) = fsShop p d c am b dd x la := by rfl
theorem lkS_ahead : (fsShop p d c am b dd lb la).lookup ("ahead" : Str) = some la := by rfl
theorem ptS_ahead {x : V} : putF ("ahead" : Str) x (fsShop p d c am b dd lb la) = fsShop p d c am b dd lb x := by rfl
theorem noS_kept : (fsShop p d c am b dd lb la).lookup ("kept" : Str) = none := by rfl
theorem noS_become : (fsShop p d c am b dd lb la).lookup ("become" : Str) = none := by rfl
theorem noS_store : (fsShop p d c am b dd lb la).lookup ("store" : Str) = none := by rfl
theorem noS_began : (fsShop p d c am b dd lb la).lookup ("began" : Str) = none := by rfl
theorem noS_rod : (fsShop p d c am b dd lb la).lookup ("rod" : Str) = none := by rfl
theorem noS_rods : (fsShop p d c am b dd lb la).lookup ("rods" : Str) = none := by rfl
theorem noS_new_rod : (fsShop p d c am b dd lb la).lookup ("new_rod" : Str) = none := by rfl
theorem noS_held_in : (fsShop p d c am b dd lb la).lookup ("held_in" : Str) = none := by rfl
theorem noS_gather : (fsShop p d c am b dd lb la).lookup ("gather" : Str) = none := by rfl
theorem noS_pull : (fsShop p d c am b dd lb la).lookup ("pull" : Str) = none := by rfl
theorem noS_bundle : (fsShop p d c am b dd lb la).lookup ("bundle" : Str) = none := by rfl
theorem noS_turn : (fsShop p d c am b dd lb la).lookup ("turn" : Str) = none := by rfl
theorem noS_cut : (fsShop p d c am b dd lb la).lookup ("cut" : Str) = none := by rfl
theorem noS_fuse : (fsShop p d c am b dd lb la).lookup ("fuse" : Str) = none := by rfl
theorem noS_gone : (fsShop p d c am b dd lb la).lookup ("gone" : Str) = none := by rfl
theorem noS_sell : (fsShop p d c am b dd lb la).lookup ("sell" : Str) = none := by rfl
theorem noS_waste : (fsShop p d c am b dd lb la).lookup ("waste" : Str) = none := by rfl
theorem noS_undo : (fsShop p d c am b dd lb la).lookup ("undo" : Str) = none := by rfl
theorem noS_redo : (fsShop p d c am b dd lb la).lookup ("redo" : Str) = none := by rfl
theorem noS_twin : (fsShop p d c am b dd lb la).lookup ("twin" : Str) = none := by rfl
theorem noS_glass : (fsShop p d c am b dd lb la).lookup ("glass" : Str) = none := by rfl
theorem noS_bundled : (fsShop p d c am b dd lb la).lookup ("bundled" : Str) = none := by rfl
theorem noS_deeds : (fsShop p d c am b dd lb la).lookup ("deeds" : Str) = none := by rfl
theorem noS_look : (fsShop p d c am b dd lb la).lookup ("look" : Str) = none := by rfl
theorem noS_do : (fsShop p d c am b dd lb la).lookup ("do" : Str) = none := by rfl
end
structure ShopAt (C : Addr) (H : Hp) (s p : Addr) (B : SB) (now : SS) (past ahead : List SS) : Prop where
  ob : H s = some (.ins C B.dx (fsShop (.ref p) (.ref B.q.d) (.int now.com) (.ref B.q.am) (.ref B.q.b) (.ref B.q.dd) (.ref B.lb) (.ref B.la)))
  cur : SnapAt H B.q now
  hb : H B.lb = some (.lst B.vs)
  kb : KeptIn H B.vs B.qs past
  ha : H B.la = some (.lst B.ws)
  ka : KeptIn H B.ws B.rs ahead
  nd : (B.muts s).Nodup
section
variable {C : Addr} {H H' : Hp} {s p : Addr} {B : SB} {now : SS} {past ahead : List SS}
theorem ShopAt.stay (h : ShopAt C H s p B now past ahead) (k : ∀ a xs, H a = some (.tup xs) → H' a = some (.tup xs)) (m : ∀ a ∈ B.muts s, ∀ o, H a = some o → H' a = some o) : ShopAt C H' s p B now past ahead :=
  ⟨m _ (by simp [SB.muts]) _ h.ob, h.cur.stay k fun a ha => m a (by simp [SB.muts, ha]), m _ (by simp [SB.muts]) _ h.hb, h.kb.stay k fun a ha => m a (by simp only [SB.muts, List.mem_cons, List.mem_append]; exact .inr (.inr (.inr (.inr (.inl ha))))),
    m _ (by simp [SB.muts]) _ h.ha, h.ka.stay k fun a ha => m a (by simp only [SB.muts, List.mem_cons, List.mem_append]; exact .inr (.inr (.inr (.inr (.inr ha))))), h.nd⟩
theorem ShopAt.same (h : ShopAt C H s p B now past ahead) (e : Same H H') : ShopAt C H' s p B now past ahead := h.stay (fun a xs q => e _ _ q) fun a _ o q => e _ _ q
theorem ShopAt.there (h : ShopAt C H s p B now past ahead) : ∀ a ∈ B.muts s, ∃ o, H a = some o ∧ NoTup o := by
  intro a ha
  simp only [SB.muts, List.mem_cons, List.mem_append] at ha
  rcases ha with rfl | rfl | rfl | z | z | z
  · exact ⟨_, h.ob, fun _ z => by cases z⟩
  · exact ⟨_, h.hb, fun _ z => by cases z⟩
  · exact ⟨_, h.ha, fun _ z => by cases z⟩
  · exact h.cur.there a z
  · exact h.kb.there a z
  · exact h.ka.there a z
/-- a mutable thing is written: tuples stay -/
theorem tup_stay {a : Addr} {o u : HO} (e : H a = some u) (n : NoTup u) : ∀ b xs, H b = some (.tup xs) → upd H a o b = some (.tup xs) := fun b xs q => by
  rw [upd_ne (fun z => by rw [z, e] at q; exact n xs (Option.some.inj q))]; exact q
theorem off {a : Addr} {o : HO} {l : List Addr} (h : a ∉ l) : ∀ b ∈ l, ∀ u, H b = some u → upd H a o b = some u := fun b hb u e => by
  rw [upd_ne (fun z => h (by rw [← z]; exact hb))]; exact e
/-- all that is apart -/
structure Apt (s : Addr) (B : SB) : Prop where
  s1 : s ≠ B.lb
  s2 : s ≠ B.la
  s3 : s ∉ B.q.muts
  s4 : s ∉ B.qs.flatMap SP.muts
  s5 : s ∉ B.rs.flatMap SP.muts
  b1 : B.lb ≠ B.la
  b3 : B.lb ∉ B.q.muts
  b4 : B.lb ∉ B.qs.flatMap SP.muts
  b5 : B.lb ∉ B.rs.flatMap SP.muts
  a3 : B.la ∉ B.q.muts
  a4 : B.la ∉ B.qs.flatMap SP.muts
  a5 : B.la ∉ B.rs.flatMap SP.muts
  q0 : B.q.muts.Nodup
  q4 : ∀ a ∈ B.q.muts, a ∉ B.qs.flatMap SP.muts
  q5 : ∀ a ∈ B.q.muts, a ∉ B.rs.flatMap SP.muts
  r0 : (B.qs.flatMap SP.muts).Nodup
  r1 : (B.rs.flatMap SP.muts).Nodup
  r5 : ∀ a ∈ B.qs.flatMap SP.muts, a ∉ B.rs.flatMap SP.muts
theorem apt_iff {s : Addr} {B : SB} : (B.muts s).Nodup ↔ Apt s B := by
  unfold SB.muts
  simp only [List.nodup_cons, List.nodup_append, List.mem_cons, List.mem_append, not_or]
  constructor
  · rintro ⟨⟨a1, a2, a3, a4, a5⟩, ⟨b1, b2, b3, b4⟩, ⟨c1, c2, c3⟩, d, ⟨e1, e2, e3⟩, f⟩
    exact ⟨a1, a2, a3, a4, a5, b1, b2, b3, b4, c1, c2, c3, d, fun a ha hb => f a ha a (.inl hb) rfl, fun a ha hb => f a ha a (.inr hb) rfl, e1, e2, fun a ha hb => e3 a ha a hb rfl⟩
  · intro h
    exact ⟨⟨h.s1, h.s2, h.s3, h.s4, h.s5⟩, ⟨h.b1, h.b3, h.b4, h.b5⟩, ⟨h.a3, h.a4, h.a5⟩, h.q0, ⟨h.r0, h.r1, fun a ha b hb e => h.r5 a ha (e ▸ hb)⟩, fun a ha b hb e => hb.elim (fun z => h.q4 a ha (e ▸ z)) fun z => h.q5 a ha (e ▸ z)⟩
theorem ShopAt.apt (h : ShopAt C H s p B now past ahead) : Apt s B := apt_iff.mp h.nd
/-- a part of the present stand is written -/
theorem ShopAt.cur_upd (h : ShopAt C H s p B now past ahead) {a : Addr} {o : HO} {now' : SS} (ha : a ∈ B.q.muts) (ec : now'.com = now.com) (hs : SnapAt (upd H a o) B.q now') : ShopAt C (upd H a o) s p B now' past ahead := by
  have A := h.apt
  obtain ⟨u, hu, nu⟩ := h.cur.there a ha
  have k := tup_stay (H := H) (o := o) hu nu
  refine ⟨?_, hs, ?_, h.kb.stay k (off (A.q4 a ha)), ?_, h.ka.stay k (off (A.q5 a ha)), h.nd⟩
  · rw [upd_ne (fun z => A.s3 (by rw [z]; exact ha)), ec]; exact h.ob
  · rw [upd_ne (fun z => A.b3 (by rw [z]; exact ha))]; exact h.hb
  · rw [upd_ne (fun z => A.a3 (by rw [z]; exact ha))]; exact h.ha
theorem SP.nd6 {q : SP} (h : q.muts.Nodup) : (q.d ≠ q.l0 ∧ q.d ≠ q.l1 ∧ q.d ≠ q.l2 ∧ q.d ≠ q.b ∧ q.d ≠ q.dd) ∧ (q.l0 ≠ q.l1 ∧ q.l0 ≠ q.l2 ∧ q.l0 ≠ q.b ∧ q.l0 ≠ q.dd) ∧ (q.l1 ≠ q.l2 ∧ q.l1 ≠ q.b ∧ q.l1 ≠ q.dd) ∧ (q.l2 ≠ q.b ∧ q.l2 ≠ q.dd) ∧ q.b ≠ q.dd := by
  simp only [SP.muts, List.nodup_cons, List.mem_cons, List.not_mem_nil, or_false, not_or] at h
  obtain ⟨h1, h2, h3, h4, h5, _⟩ := h
  exact ⟨h1, h2, h3, h4, h5⟩
/-- the rods are written -/
theorem ShopAt.setRods (h : ShopAt C H s p B now past ahead) {kvs : List (Key × V)} {rods : List Rod} (hr : RodsIn H kvs rods) : ShopAt C (upd H B.q.d (.dK kvs)) s p B { now with rods := rods } past ahead := by
  obtain ⟨⟨kv0, d1, d2⟩, am, l0, l1, l2, b, ⟨vs, e1, e2⟩⟩ := id h.cur
  have k := tup_stay (H := H) (o := .dK kvs) d1 (fun _ z => by cases z)
  obtain ⟨⟨n1, n2, n3, n4, n5⟩, _⟩ := SP.nd6 h.apt.q0
  exact h.cur_upd (by simp [SP.muts]) rfl ⟨⟨kvs, upd_same, hr.stay k⟩, k _ _ am, by rw [upd_ne n1.symm]; exact l0, by rw [upd_ne n2.symm]; exact l1, by rw [upd_ne n3.symm]; exact l2, by rw [upd_ne n4.symm]; exact b, ⟨vs, by rw [upd_ne n5.symm]; exact e1, dvAll_stay k (deeds_flat _) e2⟩⟩
theorem ShopAt.setA0 (h : ShopAt C H s p B now past ahead) {l : List Int} : ShopAt C (upd H B.q.l0 (.lst (l.map V.int))) s p B { now with a0 := l } past ahead := by
  obtain ⟨⟨kv0, d1, d2⟩, am, l0, l1, l2, b, ⟨vs, e1, e2⟩⟩ := id h.cur
  have k := tup_stay (H := H) (o := .lst (l.map V.int)) l0 (fun _ z => by cases z)
  obtain ⟨⟨n1, _⟩, ⟨m1, m2, m3, m4⟩, _⟩ := SP.nd6 h.apt.q0
  exact h.cur_upd (by simp [SP.muts]) rfl ⟨⟨kv0, by rw [upd_ne n1]; exact d1, d2.stay k⟩, k _ _ am, upd_same, by rw [upd_ne m1.symm]; exact l1, by rw [upd_ne m2.symm]; exact l2, by rw [upd_ne m3.symm]; exact b, ⟨vs, by rw [upd_ne m4.symm]; exact e1, dvAll_stay k (deeds_flat _) e2⟩⟩
theorem ShopAt.setA1 (h : ShopAt C H s p B now past ahead) {l : List Int} : ShopAt C (upd H B.q.l1 (.lst (l.map V.int))) s p B { now with a1 := l } past ahead := by
  obtain ⟨⟨kv0, d1, d2⟩, am, l0, l1, l2, b, ⟨vs, e1, e2⟩⟩ := id h.cur
  have k := tup_stay (H := H) (o := .lst (l.map V.int)) l1 (fun _ z => by cases z)
  obtain ⟨⟨_, n1, _⟩, ⟨m1, _⟩, ⟨k1, k2, k3⟩, _⟩ := SP.nd6 h.apt.q0
  exact h.cur_upd (by simp [SP.muts]) rfl ⟨⟨kv0, by rw [upd_ne n1]; exact d1, d2.stay k⟩, k _ _ am, by rw [upd_ne m1]; exact l0, upd_same, by rw [upd_ne k1.symm]; exact l2, by rw [upd_ne k2.symm]; exact b, ⟨vs, by rw [upd_ne k3.symm]; exact e1, dvAll_stay k (deeds_flat _) e2⟩⟩
theorem ShopAt.setA2 (h : ShopAt C H s p B now past ahead) {l : List Int} : ShopAt C (upd H B.q.l2 (.lst (l.map V.int))) s p B { now with a2 := l } past ahead := by
  obtain ⟨⟨kv0, d1, d2⟩, am, l0, l1, l2, b, ⟨vs, e1, e2⟩⟩ := id h.cur
  have k := tup_stay (H := H) (o := .lst (l.map V.int)) l2 (fun _ z => by cases z)
  obtain ⟨⟨_, _, n1, _⟩, ⟨_, m1, _⟩, ⟨k1, _⟩, ⟨j1, j2⟩, _⟩ := SP.nd6 h.apt.q0
  exact h.cur_upd (by simp [SP.muts]) rfl ⟨⟨kv0, by rw [upd_ne n1]; exact d1, d2.stay k⟩, k _ _ am, by rw [upd_ne m1]; exact l0, by rw [upd_ne k1]; exact l1, upd_same, by rw [upd_ne j1.symm]; exact b, ⟨vs, by rw [upd_ne j2.symm]; exact e1, dvAll_stay k (deeds_flat _) e2⟩⟩
theorem ShopAt.setBun (h : ShopAt C H s p B now past ahead) {l : List Int} : ShopAt C (upd H B.q.b (.lst (l.map V.int))) s p B { now with bun := l } past ahead := by
  obtain ⟨⟨kv0, d1, d2⟩, am, l0, l1, l2, b, ⟨vs, e1, e2⟩⟩ := id h.cur
  have k := tup_stay (H := H) (o := .lst (l.map V.int)) b (fun _ z => by cases z)
  obtain ⟨⟨_, _, _, n1, _⟩, ⟨_, _, m1, _⟩, ⟨_, k1, _⟩, ⟨j1, _⟩, i1⟩ := SP.nd6 h.apt.q0
  exact h.cur_upd (by simp [SP.muts]) rfl ⟨⟨kv0, by rw [upd_ne n1]; exact d1, d2.stay k⟩, k _ _ am, by rw [upd_ne m1]; exact l0, by rw [upd_ne k1]; exact l1, by rw [upd_ne j1]; exact l2, upd_same, ⟨vs, by rw [upd_ne i1.symm]; exact e1, dvAll_stay k (deeds_flat _) e2⟩⟩
theorem ShopAt.setDeeds (h : ShopAt C H s p B now past ahead) {vs : List V} {ds : List Deed} (hd : DvAll H vs (ds.map Deed.data)) : ShopAt C (upd H B.q.dd (.lst vs)) s p B { now with deeds := ds } past ahead := by
  obtain ⟨⟨kv0, d1, d2⟩, am, l0, l1, l2, b, ⟨vs0, e1, e2⟩⟩ := id h.cur
  have k := tup_stay (H := H) (o := .lst vs) e1 (fun _ z => by cases z)
  obtain ⟨⟨_, _, _, _, n1⟩, ⟨_, _, _, m1⟩, ⟨_, _, k1⟩, ⟨_, j1⟩, i1⟩ := SP.nd6 h.apt.q0
  exact h.cur_upd (by simp [SP.muts]) rfl ⟨⟨kv0, by rw [upd_ne n1]; exact d1, d2.stay k⟩, k _ _ am, by rw [upd_ne m1]; exact l0, by rw [upd_ne k1]; exact l1, by rw [upd_ne j1]; exact l2, by rw [upd_ne i1]; exact b, ⟨vs, upd_same, dvAll_stay k (deeds_flat _) hd⟩⟩
theorem ShopAt.setCom (h : ShopAt C H s p B now past ahead) {c : Int} : ShopAt C (upd H s (.ins C B.dx (fsShop (.ref p) (.ref B.q.d) (.int c) (.ref B.q.am) (.ref B.q.b) (.ref B.q.dd) (.ref B.lb) (.ref B.la)))) s p B { now with com := c } past ahead := by
  have A := h.apt
  have k := tup_stay (H := H) (o := (.ins C B.dx (fsShop (.ref p) (.ref B.q.d) (.int c) (.ref B.q.am) (.ref B.q.b) (.ref B.q.dd) (.ref B.lb) (.ref B.la)))) h.ob (fun _ z => by cases z)
  obtain ⟨d, am, l0, l1, l2, b, dd⟩ := h.cur.stay k (off A.s3)
  exact ⟨upd_same, ⟨d, am, l0, l1, l2, b, dd⟩, by rw [upd_ne A.s1.symm]; exact h.hb, h.kb.stay k (off A.s4), by rw [upd_ne A.s2.symm]; exact h.ha, h.ka.stay k (off A.s5), h.nd⟩
/-- the present stand is kept behind -/
theorem ShopAt.pushB (h : ShopAt C H s p B now past ahead) {t : Addr} {q : SP} {st : SS} (ht : H t = some (.tup (keptV q st))) (hs : SnapAt H q st) (nq : q.muts.Nodup) (ap : ∀ a ∈ q.muts, a ∉ B.muts s) :
    ShopAt C (upd H B.lb (.lst (B.vs ++ [.ref t]))) s p { B with qs := B.qs ++ [q], vs := B.vs ++ [.ref t] } now (past ++ [st]) ahead := by
  have A := h.apt
  have k := tup_stay (H := H) (o := .lst (B.vs ++ [.ref t])) h.hb (fun _ z => by cases z)
  have n3 : B.lb ∉ q.muts := fun z => ap _ z (by simp [SB.muts])
  have fm : (B.qs ++ [q]).flatMap SP.muts = B.qs.flatMap SP.muts ++ q.muts := by simp
  refine ⟨by rw [upd_ne A.s1]; exact h.ob, h.cur.stay k (off A.b3), upd_same, (h.kb.stay k (off A.b4)).snoc (k _ _ ht) (hs.stay k (off n3)), by rw [upd_ne A.b1.symm]; exact h.ha, h.ka.stay k (off A.b5), apt_iff.mpr ?_⟩
  have out : ∀ a ∈ q.muts, a ≠ s ∧ a ≠ B.lb ∧ a ≠ B.la ∧ a ∉ B.q.muts ∧ a ∉ B.qs.flatMap SP.muts ∧ a ∉ B.rs.flatMap SP.muts := fun a ha => by
    have := ap a ha
    simpa only [SB.muts, List.mem_cons, List.mem_append, not_or] using this
  exact ⟨A.s1, A.s2, A.s3, by rw [fm, List.mem_append]; exact not_or.mpr ⟨A.s4, fun z => (out s z).1 rfl⟩, A.s5, A.b1, A.b3, by rw [fm, List.mem_append]; exact not_or.mpr ⟨A.b4, n3⟩, A.b5, A.a3, by rw [fm, List.mem_append]; exact not_or.mpr ⟨A.a4, fun z => (out _ z).2.2.1 rfl⟩, A.a5, A.q0,
    fun a ha => by rw [fm, List.mem_append]; exact not_or.mpr ⟨A.q4 a ha, fun z => (out a z).2.2.2.1 ha⟩, A.q5, by rw [fm, List.nodup_append]; exact ⟨A.r0, nq, fun a ha b hb e => (out b hb).2.2.2.2.1 (e ▸ ha)⟩, A.r1, fun a ha => by
      rw [fm, List.mem_append] at ha
      exact ha.elim (A.r5 a) fun z => (out a z).2.2.2.2.2⟩
/-- nothing more to be done again -/
theorem ShopAt.clearA (h : ShopAt C H s p B now past ahead) {la : Addr} (hl : H la = some (.lst [])) (nl : la ∉ B.muts s) :
    ShopAt C (upd H s (.ins C B.dx (fsShop (.ref p) (.ref B.q.d) (.int now.com) (.ref B.q.am) (.ref B.q.b) (.ref B.q.dd) (.ref B.lb) (.ref la)))) s p { B with la := la, rs := [], ws := [] } now past [] := by
  have A := h.apt
  have k := tup_stay (H := H) (o := (.ins C B.dx (fsShop (.ref p) (.ref B.q.d) (.int now.com) (.ref B.q.am) (.ref B.q.b) (.ref B.q.dd) (.ref B.lb) (.ref la)))) h.ob (fun _ z => by cases z)
  simp only [SB.muts, List.mem_cons, List.mem_append, not_or] at nl
  obtain ⟨m1, m2, m3, m4, m5, m6⟩ := nl
  exact ⟨upd_same, h.cur.stay k (off A.s3), by rw [upd_ne A.s1.symm]; exact h.hb, h.kb.stay k (off A.s4), by rw [upd_ne m1]; exact hl, .nil, apt_iff.mpr ⟨A.s1, fun z => m1 z.symm, A.s3, A.s4, by simp, fun z => m2 z.symm, A.b3, A.b4, by simp, m4, m5, by simp, A.q0, A.q4, fun a _ => by simp, A.r0, by simp, fun a _ => by simp⟩⟩
end
/-! ### what stands is good -/
structure RodOk (ps : List Pic) (k : Nat) (r : Rod) : Prop where
  pic : ∃ P, IsF ps r.f P ∧ ((P.depth : Nat) : Int) ≤ r.t
  thin : r.t ≤ 12
  long : 1 ≤ r.l
  cap : r.l < 2 ^ (60 + 30 * k)
  one : 1 ≤ r.n
structure SumOk (k : Nat) (l : List Int) : Prop where
  ten : l.length = 10
  rg : ∀ x ∈ l, 0 ≤ x ∧ x < 2 ^ (100 + 30 * k)
structure StOk (ps : List Pic) (k : Nat) (st : SS) : Prop where
  up : (st.rods.map (·.n)).Pairwise (· < ·)
  rod : ∀ r ∈ st.rods, RodOk ps k r ∧ r.n < st.com
  com1 : 1 ≤ st.com
  com : st.com ≤ k + 1
  rl : st.rods.length ≤ k
  dl : st.deeds.length ≤ k
  bl : st.bun.length ≤ k
  a0 : SumOk k st.a0
  a1 : SumOk k st.a1
  a2 : SumOk k st.a2
  bun : ∀ f ∈ st.bun, ∃ P, IsF ps f P
theorem p2_le {a b : Nat} (h : a ≤ b) : (2 : Int) ^ a ≤ 2 ^ b := by
  have e1 : (2 : Int) ^ b = 2 ^ a * 2 ^ (b - a) := by rw [← Int.pow_add]; congr 1; omega
  have h1 : (1 : Int) ≤ 2 ^ (b - a) := by have := pow2 (b - a); omega
  have h2 := Int.mul_le_mul_of_nonneg_left h1 (Int.le_of_lt (pow2 a))
  rw [e1]; omega
theorem SumOk.up {k j : Nat} {l : List Int} (h : SumOk k l) (e : k ≤ j) : SumOk j l := ⟨h.ten, fun x hx => ⟨(h.rg x hx).1, Int.lt_of_lt_of_le (h.rg x hx).2 (p2_le (by omega))⟩⟩
theorem RodOk.mono {ps qs : List Pic} {k j : Nat} {r : Rod} (h : RodOk ps k r) (e : k ≤ j) : RodOk (ps ++ qs) j r :=
  ⟨let ⟨P, a, b⟩ := h.pic; ⟨P, a.app, b⟩, h.thin, h.long, Int.lt_of_lt_of_le h.cap (p2_le (by omega)), h.one⟩
theorem StOk.mono {ps qs : List Pic} {k j : Nat} {st : SS} (h : StOk ps k st) (e : k ≤ j) : StOk (ps ++ qs) j st :=
  ⟨h.up, fun r hr => ⟨(h.rod r hr).1.mono e, (h.rod r hr).2⟩, h.com1, by have := h.com; omega, by have := h.rl; omega, by have := h.dl; omega, by have := h.bl; omega, h.a0.up e, h.a1.up e, h.a2.up e, fun f hf => let ⟨P, z⟩ := h.bun f hf; ⟨P, z.app⟩⟩
structure Wd (K : PySem.W.Frag) (H : Hp) (p : Addr) (A : FA) (D : Addr → Prop) (ps bs : List Pic) (s : Addr) (B : SB) (now : SS) (past ahead : List SS) (k : Nat) : Prop where
  F : FacesAt (He.ga K "Faces") H p A D ps
  base : Base bs ps
  S : ShopAt (He.ga K "Shop") H s p B now past ahead
  ap : ∀ a ∈ B.muts s, ¬ D a
  ok : ∀ st, st = now ∨ st ∈ past ∨ st ∈ ahead → StOk ps k st
  bl : bs.length ≤ 8000 + k
  kl : k ≤ 1000
  pl : past.length ≤ k
section
variable {K : PySem.W.Frag} {H H' : Hp} {p : Addr} {A : FA} {D D' : Addr → Prop} {ps qs bs : List Pic} {s : Addr} {B : SB} {now : SS} {past ahead : List SS} {k : Nat}
theorem Wd.same (h : Wd K H p A D ps bs s B now past ahead k) (e : Same H H') : Wd K H' p A D ps bs s B now past ahead k := ⟨h.F.same e, h.base, h.S.same e, h.ap, h.ok, h.bl, h.kl, h.pl⟩
/-- the store of faces has worked -/
theorem Wd.faces (h : Wd K H p A D ps bs s B now past ahead k) {cs : List Pic} (kp : Keep A.foot H H') (hF : FacesAt (He.ga K "Faces") H' p A D' (ps ++ qs)) (hB : Base cs (ps ++ qs)) (hl : cs.length ≤ 8000 + k) (d2 : ∀ b, D' b → D b ∨ H b = none) : Wd K H' p A D' (ps ++ qs) cs s B now past ahead k :=
  ⟨hF, hB, h.S.stay (kp.tup h.F) (fun a ha o e => kp _ _ e (h.F.ofFoot (h.ap a ha))), fun a ha => by
    obtain ⟨o, e, _⟩ := h.S.there a ha
    exact fresh_not e (h.ap a ha) d2, fun st hst => (h.ok st hst).mono (Nat.le_refl _), hl, h.kl, h.pl⟩
theorem Wd.len (h : Wd K H p A D ps bs s B now past ahead k) : ps.length ≤ 72000 := by
  have h1 := h.base.len h.F.inv.nd
  have h2 := h.bl
  have h3 := h.kl
  omega
end
/-- how deep the picture of a face is -/
def depthF (ps : List Pic) (f : Int) : Int := ((ps.getD f.toNat (.p 0)).depth : Nat)
theorem depthF_of {ps : List Pic} {f : Int} {P : Pic} (h : IsF ps f P) : depthF ps f = (P.depth : Nat) := by
  unfold depthF
  rw [List.getD_eq_getElem?_getD, h.2]
  rfl
def picF (ps : List Pic) (f : Int) : Pic := ps.getD f.toNat (.p 0)
theorem picF_of {ps : List Pic} {f : Int} {P : Pic} (h : IsF ps f P) : picF ps f = P := by
  unfold picF
  rw [List.getD_eq_getElem?_getD, h.2]
  rfl
/-- the refusal that is due -/
def refuse (ps : List Pic) (st : SS) : Deed → Option Str
  | .gather c t l => if ¬ (0 ≤ c ∧ c ≤ 9) then some "BadColour" else if ¬ (0 ≤ t ∧ t ≤ 12) then some "BadThickness" else if ¬ (1 ≤ l ∧ l ≤ 999999999999999) then some "BadLength" else none
  | .pull n k => match findR st.rods n with
    | none => some "NoRod"
    | some r => if k < 1 then some "BadSteps" else if r.t - k < depthF ps r.f then some "TooThin" else none
  | .bundle a b c d => match findR st.rods a, findR st.rods b, findR st.rods c, findR st.rods d with
    | some ra, some rb, some rc, some rd => if a = b ∨ a = c ∨ a = d ∨ b = c ∨ b = d ∨ c = d then some "Twice"
      else if ¬ ((rb.t = ra.t ∧ rb.l = ra.l) ∧ (rc.t = ra.t ∧ rc.l = ra.l) ∧ rd.t = ra.t ∧ rd.l = ra.l) then some "Unlike" else if 12 ≤ ra.t then some "TooThick" else none
    | _, _, _, _ => some "NoRod"
  | .turn n t => match findR st.rods n with
    | none => some "NoRod"
    | some _ => if ¬ (0 ≤ t ∧ t ≤ 7) then some "BadTurn" else none
  | .cut n l => match findR st.rods n with
    | none => some "NoRod"
    | some r => if l < 1 ∨ r.l ≤ l ∨ 999999999999999999 < l then some "BadLength" else none
  | .fuse a b => match findR st.rods a, findR st.rods b with
    | some ra, some rb => if a = b then some "Twice" else if ¬ (rb.f = ra.f ∧ rb.t = ra.t) then some "Unlike" else none
    | _, _ => some "NoRod"
  | .sell n => match findR st.rods n with
    | none => some "NoRod"
    | some _ => none
  | .waste n => match findR st.rods n with
    | none => some "NoRod"
    | some _ => none
def rodD (st : SS) (n : Int) : Rod := (findR st.rods n).getD ⟨0, 0, 0, 0⟩
/-- the glass of each colour in a rod -/
def heldL (ps : List Pic) (r : Rod) : List Int := (picF ps r.f).sums.map fun m => m * 4 ^ (r.t.toNat - (picF ps r.f).depth) * r.l
def addL (a b : List Int) : List Int := List.zipWith (· + ·) a b
/-- the stand behind a deed; ps: the store's pictures behind it -/
def eff (ps : List Pic) (st : SS) (dd : Deed) : SS :=
  match dd with
  | .gather c t l => { st with rods := st.rods ++ [⟨st.com, (ix ps (.p c) : Nat), t, l⟩], com := st.com + 1, a0 := st.a0.set c.toNat (st.a0.getD c.toNat 0 + 4 ^ t.toNat * l), deeds := st.deeds ++ [dd] }
  | .pull n k => let r := rodD st n; { st with rods := setR st.rods ⟨n, r.f, r.t - k, r.l * 4 ^ k.toNat⟩, deeds := st.deeds ++ [dd] }
  | .bundle a b c d =>
    let f : Int := (ix ps (Pic.mk (picF ps (rodD st a).f) (picF ps (rodD st b).f) (picF ps (rodD st c).f) (picF ps (rodD st d).f)) : Nat)
    { st with rods := dropR (dropR (dropR (dropR st.rods a) b) c) d ++ [⟨st.com, f, (rodD st a).t + 1, (rodD st a).l⟩], com := st.com + 1, bun := st.bun ++ [f], deeds := st.deeds ++ [dd] }
  | .turn n t => let r := rodD st n; { st with rods := setR st.rods ⟨n, (ix ps ((picF ps r.f).turn t) : Nat), r.t, r.l⟩, deeds := st.deeds ++ [dd] }
  | .cut n l => let r := rodD st n; { st with rods := setR st.rods ⟨n, r.f, r.t, l⟩ ++ [⟨st.com, r.f, r.t, r.l - l⟩], com := st.com + 1, deeds := st.deeds ++ [dd] }
  | .fuse a b => let r := rodD st a; { st with rods := setR (dropR st.rods b) ⟨a, r.f, r.t, r.l + (rodD st b).l⟩, deeds := st.deeds ++ [dd] }
  | .sell n => { st with rods := dropR st.rods n, a1 := addL st.a1 (heldL ps (rodD st n)), deeds := st.deeds ++ [dd] }
  | .waste n => { st with rods := dropR st.rods n, a2 := addL st.a2 (heldL ps (rodD st n)), deeds := st.deeds ++ [dd] }
def ansV (st : SS) : Deed → V
  | .gather _ _ _ => .int st.com
  | .bundle _ _ _ _ => .int st.com
  | .cut _ _ => .int st.com
  | _ => .non
/-- the pictures that a deed needs in the store behind it -/
def hasP (ps : List Pic) (st : SS) : Deed → Prop
  | .gather c _ _ => Pic.p c ∈ ps
  | .bundle a b c d => Pic.mk (picF ps (rodD st a).f) (picF ps (rodD st b).f) (picF ps (rodD st c).f) (picF ps (rodD st d).f) ∈ ps
  | .turn n t => (picF ps (rodD st n).f).turn t ∈ ps
  | _ => True
end Mur
/-! What deeds leave: good stands; the whole state of a shop and its store. -/
namespace Mur
open PySem hiding start
open PySem.Spec L2
open PyProof.Rows hiding St
structure Ws where
  p : Addr
  A : FA
  D : Addr → Prop
  ps : List Pic
  bs : List Pic
  s : Addr
  B : SB
  now : SS
  past : List SS
  ahead : List SS
  k : Nat
abbrev Ws.at (x : Ws) (K : PySem.W.Frag) (H : Hp) : Prop := Wd K H x.p x.A x.D x.ps x.bs x.s x.B x.now x.past x.ahead x.k
abbrev Ws.foot (x : Ws) (b : Addr) : Prop := x.A.foot b ∨ b ∈ x.B.muts x.s
/-- nothing is forgotten -/
def Live (H H' : Hp) : Prop := ∀ b, H' b = none → H b = none
theorem Live.refl (H : Hp) : Live H H := fun _ z => z
theorem Live.trans {H H1 H2 : Hp} (a : Live H H1) (b : Live H1 H2) : Live H H2 := fun c z => a c (b c z)
theorem Live.set {H H' : Hp} {a : Addr} {o : HO} (h : Live H H') : Live H (upd H' a o) := fun b z => h b (by
  by_cases e : b = a
  · rw [e, upd_same] at z; cases z
  · rw [upd_ne e] at z; exact z)
theorem _root_.L2.Same.live {H H' : Hp} (s : Same H H') : Live H H' := fun _ z => s.free z
theorem liveF {C : Addr} {H H' : Hp} {p : Addr} {A : FA} {D : Addr → Prop} {ps : List Pic} (hF : FacesAt C H' p A D ps) (kp : Keep A.foot H H') : Live H H' := fun b z => by
  cases e : H b with
  | none => rfl
  | some o =>
    by_cases hf : A.foot b
    · obtain ⟨o2, e2⟩ := hF.ex b (hF.df b hf)
      rw [e2] at z; cases z
    · rw [kp b o e hf] at z; cases z
/-- from x at H to y at H': what stays -/
structure Gone (H : Hp) (x : Ws) (H' : Hp) (y : Ws) : Prop where
  p : y.p = x.p
  A : y.A = x.A
  s : y.s = x.s
  ext : ∃ qs, y.ps = x.ps ++ qs
  keep : Keep x.foot H H'
  live : Live H H'
  D : ∀ b, y.D b → x.D b ∨ H b = none
  m : ∀ b ∈ y.B.muts y.s, b ∈ x.B.muts x.s ∨ H b = none
/-- a deed: refused, or the new stand -/
def Does (K : PySem.W.Frag) (H : Hp) (x : Ws) (dd : Deed) (Q : VK) (E : XK) : Prop :=
  (∀ c, refuse x.ps x.now dd = some c → ∀ H', Same H H' → E (.ref (He.ga K c)) none H') ∧
  (refuse x.ps x.now dd = none → ∀ H' (y : Ws), y.at K H' → Gone H x H' y → y.now = eff y.ps x.now dd → y.past = x.past ++ [x.now] → y.ahead = [] → y.k = x.k + 1 → hasP y.ps x.now dd → Q (ansV x.now dd) H')
theorem Does.same {K : PySem.W.Frag} {H H' : Hp} {x : Ws} {dd : Deed} {Q : VK} {E : XK} (h : Does K H x dd Q E) (s : Same H H') : Does K H' x dd Q E :=
  ⟨fun c e H2 s2 => h.1 c e H2 (s.trans s2), fun e H2 y a g => h.2 e H2 y a ⟨g.p, g.A, g.s, g.ext, s.keep.trans g.keep, s.live.trans g.live, fun b hb => (g.D b hb).imp id s.free, fun b hb => (g.m b hb).imp id s.free⟩⟩
theorem Ws.at.freshM {x : Ws} {K : PySem.W.Frag} {H : Hp} (h : x.at K H) {b : Addr} (e : H b = none) : ¬ x.foot b := fun z => by
  rcases z with z | z
  · exact h.F.ofFoot (h.F.nd e) z
  · obtain ⟨o, q, _⟩ := h.S.there b z
    rw [e] at q; cases q
/-- what is new behind was new ahead -/
theorem Ws.at.back {x : Ws} {K : PySem.W.Frag} {H H' : Hp} (h : ∀ b, x.foot b → ∃ o, H' b = some o) (kp : Keep x.foot H H') {b : Addr} (z : H' b = none) : H b = none := by
  cases e : H b with
  | none => rfl
  | some o =>
    by_cases hf : x.foot b
    · obtain ⟨o2, e2⟩ := h b hf
      rw [e2] at z; cases z
    · rw [kp b o e hf] at z; cases z
theorem Keep.setM {F : Addr → Prop} {H H' : Hp} {a : Addr} {o : HO} (h : Keep F H H') (f : F a ∨ H a = none) : Keep F H (upd H' a o) := f.elim h.set h.setNew
theorem keepM {x : Ws} {H H2 H4 : Hp} {M : Addr → Prop} (k1 : Keep x.foot H H2) (m : ∀ b, M b → x.foot b ∨ H b = none) (k2 : Keep M H2 H4) : Keep x.foot H H4 := fun b o e nf => k2 b o (k1 b o e nf) fun z => (m b z).elim nf fun y => by rw [y] at e; cases e
theorem keepF {x : Ws} {H H2 H4 : Hp} (k1 : Keep x.foot H H2) (k2 : Keep x.A.foot H2 H4) : Keep x.foot H H4 := k1.trans (k2.mono fun _ h => .inl h)
/-! ### powers -/
theorem p2_add {a b c : Nat} {x y : Int} (hx : x < 2 ^ a) (hy : y < 2 ^ b) (h1 : a < c) (h2 : b < c) : x + y < 2 ^ c := by
  have e1 := p2_le (a := a) (b := c - 1) (by omega)
  have e2 := p2_le (a := b) (b := c - 1) (by omega)
  have e3 : (2 : Int) ^ c = 2 * 2 ^ (c - 1) := by
    have : c = (c - 1) + 1 := by omega
    rw [this, Int.pow_succ]
    simp
    omega
  omega
theorem p2_mul {a b c : Nat} {x y : Int} (h0 : 0 ≤ x) (h0' : 0 ≤ y) (hx : x < 2 ^ a) (hy : y ≤ 2 ^ b) (h : a + b ≤ c) : x * y < 2 ^ c := by
  have h1 := Int.mul_le_mul_of_nonneg_left hy h0
  have h2 := Int.mul_lt_mul_of_pos_right hx (pow2 b)
  have h3 := p2_le (a := a + b) (b := c) h
  rw [Int.pow_add] at h3
  omega
theorem four_two (n : Nat) : (4 : Int) ^ n = 2 ^ (2 * n) := by rw [Int.pow_mul]; rfl
/-! ### rows of rods -/
structure RO (ps : List Pic) (k : Nat) (c : Int) (m : Nat) (rods : List Rod) : Prop where
  up : (rods.map (·.n)).Pairwise (· < ·)
  rod : ∀ r ∈ rods, RodOk ps k r ∧ r.n < c
  len : rods.length ≤ m
section
variable {ps qs : List Pic} {k j : Nat} {c c' : Int} {m m' : Nat} {rods : List Rod} {r : Rod}
theorem RO.mono (h : RO ps k c m rods) (e1 : k ≤ j) (e2 : c ≤ c') (e3 : m ≤ m') : RO (ps ++ qs) j c' m' rods := ⟨h.up, fun r hr => ⟨(h.rod r hr).1.mono e1, by have := (h.rod r hr).2; omega⟩, by have := h.len; omega⟩
theorem RO.push (h : RO ps k c m rods) (ok : RodOk ps k r) (e : r.n = c) : RO ps k (c + 1) (m + 1) (rods ++ [r]) := by
  refine ⟨?_, fun x hx => ?_, by simp; exact h.len⟩
  · rw [List.map_append, List.pairwise_append]
    refine ⟨h.up, by simp, fun a ha b hb => ?_⟩
    simp only [List.map_cons, List.map_nil, List.mem_singleton] at hb
    obtain ⟨x, hx, rfl⟩ := List.mem_map.mp ha
    rw [hb, e]
    exact (h.rod x hx).2
  · rcases List.mem_append.mp hx with z | z
    · exact ⟨(h.rod x z).1, by have := (h.rod x z).2; omega⟩
    · simp at z; rw [z]; exact ⟨ok, by omega⟩
theorem setR_nums (rods : List Rod) (r : Rod) : (setR rods r).map (·.n) = rods.map (·.n) := by
  unfold setR
  rw [List.map_map]
  apply List.map_congr_left
  intro x _
  simp only [Function.comp]
  split
  · rename_i e; exact e.symm
  · rfl
theorem RO.set (h : RO ps k c m rods) (ok : RodOk ps k r) (e : r.n < c) : RO ps k c m (setR rods r) := by
  refine ⟨by rw [setR_nums]; exact h.up, fun x hx => ?_, by unfold setR; rw [List.length_map]; exact h.len⟩
  unfold setR at hx
  obtain ⟨y, hy, rfl⟩ := List.mem_map.mp hx
  split
  · exact ⟨ok, e⟩
  · exact h.rod y hy
theorem RO.drop (h : RO ps k c m rods) (n : Int) : RO ps k c m (dropR rods n) := by
  refine ⟨?_, fun x hx => h.rod x (List.mem_filter.mp hx).1, Nat.le_trans (List.length_filter_le _ _) h.len⟩
  exact h.up.sublist (List.Sublist.map _ List.filter_sublist)
theorem RO.fresh (h : RO ps k c m rods) : findR rods c = none := by
  unfold findR
  rw [List.find?_eq_none]
  intro r hr
  have := (h.rod r hr).2
  simp; omega
theorem StOk.ro {st : SS} (h : StOk ps k st) : RO ps k st.com k st.rods := ⟨h.up, h.rod, h.rl⟩
theorem StOk.of {st now : SS} (h : StOk ps k now) (hr : RO (ps ++ qs) (k + 1) st.com (k + 1) st.rods) (c1 : now.com ≤ st.com) (c2 : st.com ≤ now.com + 1) (d : st.deeds.length ≤ now.deeds.length + 1) (b : st.bun = now.bun ∨ ∃ f P, st.bun = now.bun ++ [f] ∧ IsF (ps ++ qs) f P)
    (a0 : SumOk (k + 1) st.a0) (a1 : SumOk (k + 1) st.a1) (a2 : SumOk (k + 1) st.a2) : StOk (ps ++ qs) (k + 1) st := by
  have := h.com1
  have := h.com
  have := h.dl
  have := h.bl
  refine ⟨hr.up, hr.rod, by omega, by omega, hr.len, by omega, ?_, a0, a1, a2, ?_⟩
  · rcases b with b | ⟨f, P, b, _⟩
    · rw [b]; omega
    · rw [b]; simp; omega
  · rcases b with b | ⟨f, P, b, hP⟩
    · rw [b]; exact fun f hf => let ⟨P, z⟩ := h.bun f hf; ⟨P, z.app⟩
    · rw [b]
      intro g hg
      rcases List.mem_append.mp hg with z | z
      · obtain ⟨P, y⟩ := h.bun g z; exact ⟨P, y.app⟩
      · simp at z; rw [z]; exact ⟨P, hP⟩
theorem findR_some {st : SS} {n : Int} {r : Rod} (h : findR st.rods n = some r) : rodD st n = r := by unfold rodD; rw [h]; rfl
theorem SumOk.one (h : SumOk k m0) {i : Nat} {v : Int} (v0 : 0 ≤ v) (v1 : v < 2 ^ (110 + 30 * k)) : SumOk (k + 1) (m0.set i (m0.getD i 0 + v)) := by
  refine ⟨by rw [List.length_set]; exact h.ten, fun x hx => ?_⟩
  rcases List.mem_or_eq_of_mem_set hx with z | z
  · exact (h.up (Nat.le_succ k)).rg x z
  · have hb : 0 ≤ m0.getD i 0 ∧ m0.getD i 0 < 2 ^ (100 + 30 * k) := by
      rw [List.getD_eq_getElem?_getD]
      cases e : m0[i]? with
      | none => exact ⟨Int.le_refl _, pow2 _⟩
      | some y => exact h.rg y (List.mem_of_getElem? e)
    rw [z]
    exact ⟨by omega, p2_add hb.2 v1 (by omega) (by omega)⟩
theorem SumOk.add (h : SumOk k m0) {v : List Int} (vl : v.length = 10) (hv : ∀ x ∈ v, 0 ≤ x ∧ x < 2 ^ (110 + 30 * k)) : SumOk (k + 1) (addL m0 v) := by
  refine ⟨by unfold addL; rw [List.length_zipWith, h.ten, vl]; rfl, fun x hx => ?_⟩
  unfold addL at hx
  obtain ⟨i, hi⟩ := List.mem_iff_getElem?.mp hx
  rw [List.getElem?_zipWith] at hi
  cases e1 : m0[i]? with
  | none => rw [e1] at hi; cases hi
  | some a =>
    cases e2 : v[i]? with
    | none => rw [e1, e2] at hi; cases hi
    | some b =>
      rw [e1, e2] at hi
      obtain rfl := Option.some.inj hi
      have h1 := h.rg a (List.mem_of_getElem? e1)
      have h2 := hv b (List.mem_of_getElem? e2)
      exact ⟨by omega, p2_add h1.2 h2.2 (by omega) (by omega)⟩
theorem findR_at {rods : List Rod} (hup : (rods.map (·.n)).Pairwise (· < ·)) {i : Nat} {r : Rod} (hr : rods[i]? = some r) : findR rods r.n = some r := by
  cases e : findR rods r.n with
  | none =>
    unfold findR at e
    rw [List.find?_eq_none] at e
    have := e r (List.mem_of_getElem? hr)
    simp at this
  | some r' =>
    obtain ⟨h1', h2'⟩ := findR_n e
    have hup2 : rods.Pairwise fun a b => a.n < b.n := by rw [List.pairwise_map] at hup; exact hup
    obtain ⟨j, hj⟩ := List.mem_iff_getElem?.mp h2'
    have hjl := (List.getElem?_eq_some_iff.mp hj).1
    have hil := (List.getElem?_eq_some_iff.mp hr).1
    rw [List.pairwise_iff_getElem] at hup2
    rcases Nat.lt_trichotomy i j with c | c | c
    · have := hup2 i j hil hjl c
      rw [(List.getElem?_eq_some_iff.mp hj).2, (List.getElem?_eq_some_iff.mp hr).2] at this
      omega
    · subst c; rw [hr] at hj; exact hj.symm
    · have := hup2 j i hjl hil c
      rw [(List.getElem?_eq_some_iff.mp hj).2, (List.getElem?_eq_some_iff.mp hr).2] at this
      omega
theorem StOk.at {st : SS} (h : StOk ps k st) {i : Nat} (hr : st.rods[i]? = some r) : findR st.rods r.n = some r := findR_at h.up hr
/-! ### good stands behind deeds -/
theorem ok_gather {now : SS} {c t l : Int} (h : StOk ps k now) (hr : refuse ps now (.gather c t l) = none) (hp : Pic.p c ∈ ps ++ qs) : StOk (ps ++ qs) (k + 1) (eff (ps ++ qs) now (.gather c t l)) := by
  have hc : (0 ≤ c ∧ c ≤ 9) ∧ (0 ≤ t ∧ t ≤ 12) ∧ 1 ≤ l ∧ l ≤ 999999999999999 := by
    unfold refuse at hr
    simp only at hr
    split at hr
    · cases hr
    · split at hr
      · cases hr
      · split at hr
        · cases hr
        · rename_i a b c'; exact ⟨Decidable.not_not.mp a, Decidable.not_not.mp b, Decidable.not_not.mp c'⟩
  obtain ⟨hc, ht, hl⟩ := hc
  have hl60 : l < 2 ^ 60 := by have : (2 : Int) ^ 60 = 1152921504606846976 := by decide
                               omega
  have h4 : (4 : Int) ^ t.toNat ≤ 2 ^ 24 := by rw [four_two]; exact p2_le (by omega)
  have h40 := pow4 t.toNat
  have com1 := h.com1
  refine h.of (st := eff (ps ++ qs) now (.gather c t l)) ((h.ro.mono (qs := qs) (Nat.le_succ k) (Int.le_refl _) (Nat.le_refl _)).push ⟨⟨.p c, IsF.ix hp, by simp [Pic.depth]; omega⟩, ht.2, hl.1, Int.lt_of_lt_of_le hl60 (p2_le (by omega)), com1⟩ rfl) (by simp only [eff]; omega) (by simp only [eff]; omega) (by simp [eff]) (.inl rfl) ?_ (h.a1.up (Nat.le_succ k)) (h.a2.up (Nat.le_succ k))
  refine h.a0.one (Int.mul_nonneg (Int.le_of_lt h40) (by omega)) ?_
  rw [Int.mul_comm]
  exact p2_mul (by omega) (Int.le_of_lt h40) hl60 h4 (by omega)
theorem ok_pull {now : SS} {n s : Int} (h : StOk ps k now) (hr : refuse ps now (.pull n s) = none) : StOk (ps ++ qs) (k + 1) (eff (ps ++ qs) now (.pull n s)) := by
  unfold refuse at hr
  simp only at hr
  cases hf : findR now.rods n with
  | none => rw [hf] at hr; cases hr
  | some r =>
    rw [hf] at hr
    simp only at hr
    split at hr
    · cases hr
    split at hr
    · cases hr
    rename_i c1 c2
    obtain ⟨hn, hm⟩ := findR_n hf
    obtain ⟨ok, lt⟩ := h.rod r hm
    obtain ⟨⟨P, hP, hd⟩, thin, long, cap, one⟩ := ok
    rw [depthF_of hP] at c2
    have h4 : (4 : Int) ^ s.toNat ≤ 2 ^ 24 := by rw [four_two]; exact p2_le (by omega)
    have h40 := pow4 s.toNat
    have hmul := Int.mul_le_mul long h40 (by omega) (by omega)
    refine h.of (st := eff (ps ++ qs) now (.pull n s)) ?_ (by simp only [eff]; omega) (by simp only [eff]; omega) (by simp [eff]) (.inl rfl) (h.a0.up (Nat.le_succ k)) (h.a1.up (Nat.le_succ k)) (h.a2.up (Nat.le_succ k))
    simp only [eff, findR_some hf]
    refine (h.ro.mono (qs := qs) (Nat.le_succ k) (Int.le_refl _) (Nat.le_succ k)).set ⟨⟨P, hP.app, by simp only; omega⟩, by simp only; omega, by simp only; omega, p2_mul (by omega) (Int.le_of_lt h40) cap h4 (by omega), by simp only; omega⟩ (by simp only; omega)
theorem ok_turn {now : SS} {n t : Int} (h : StOk ps k now) (hr : refuse ps now (.turn n t) = none) (hp : hasP (ps ++ qs) now (.turn n t)) : StOk (ps ++ qs) (k + 1) (eff (ps ++ qs) now (.turn n t)) := by
  unfold refuse at hr
  simp only at hr
  cases hf : findR now.rods n with
  | none => rw [hf] at hr; cases hr
  | some r =>
    rw [hf] at hr
    simp only at hr
    split at hr
    · cases hr
    rename_i c1
    have c1 := Decidable.not_not.mp c1
    obtain ⟨hn, hm⟩ := findR_n hf
    obtain ⟨ok, lt⟩ := h.rod r hm
    obtain ⟨⟨P, hP, hd⟩, thin, long, cap, one⟩ := ok
    unfold hasP at hp
    simp only [findR_some hf, picF_of (hP.app (qs := qs))] at hp
    refine h.of (st := eff (ps ++ qs) now (.turn n t)) ?_ (by simp only [eff]; omega) (by simp only [eff]; omega) (by simp [eff]) (.inl rfl) (h.a0.up (Nat.le_succ k)) (h.a1.up (Nat.le_succ k)) (h.a2.up (Nat.le_succ k))
    simp only [eff, findR_some hf, picF_of (hP.app (qs := qs))]
    refine (h.ro.mono (qs := qs) (Nat.le_succ k) (Int.le_refl _) (Nat.le_succ k)).set ⟨⟨P.turn t, IsF.ix hp, by rw [turn_depth (by omega) (by omega)]; exact hd⟩, thin, long, Int.lt_of_lt_of_le cap (p2_le (by omega)), by simp only; omega⟩ (by simp only; omega)
theorem ok_cut {now : SS} {n l : Int} (h : StOk ps k now) (hr : refuse ps now (.cut n l) = none) : StOk (ps ++ qs) (k + 1) (eff (ps ++ qs) now (.cut n l)) := by
  unfold refuse at hr
  simp only at hr
  cases hf : findR now.rods n with
  | none => rw [hf] at hr; cases hr
  | some r =>
    rw [hf] at hr
    simp only at hr
    split at hr
    · cases hr
    rename_i c1
    obtain ⟨hn, hm⟩ := findR_n hf
    obtain ⟨ok, lt⟩ := h.rod r hm
    obtain ⟨⟨P, hP, hd⟩, thin, long, cap, one⟩ := ok
    have cap2 : r.l < 2 ^ (60 + 30 * (k + 1)) := Int.lt_of_lt_of_le cap (p2_le (by omega))
    have com1 := h.com1
    refine h.of (st := eff (ps ++ qs) now (.cut n l)) ?_ (by simp only [eff]; omega) (by simp only [eff]; omega) (by simp [eff]) (.inl rfl) (h.a0.up (Nat.le_succ k)) (h.a1.up (Nat.le_succ k)) (h.a2.up (Nat.le_succ k))
    simp only [eff, findR_some hf]
    exact ((h.ro.mono (qs := qs) (Nat.le_succ k) (Int.le_refl _) (Nat.le_refl k)).set (r := ⟨n, r.f, r.t, l⟩) ⟨⟨P, hP.app, hd⟩, thin, by simp only; omega, Int.lt_trans (show l < r.l by omega) cap2, by simp only; omega⟩ (by simp only; omega)).push (r := ⟨now.com, r.f, r.t, r.l - l⟩) ⟨⟨P, hP.app, hd⟩, thin, by simp only; omega, Int.lt_of_le_of_lt (show r.l - l ≤ r.l by omega) cap2, com1⟩ rfl
theorem ok_fuse {now : SS} {a b : Int} (h : StOk ps k now) (hr : refuse ps now (.fuse a b) = none) : StOk (ps ++ qs) (k + 1) (eff (ps ++ qs) now (.fuse a b)) := by
  unfold refuse at hr
  simp only at hr
  cases hf : findR now.rods a with
  | none => rw [hf] at hr; cases hr
  | some r =>
    cases hg : findR now.rods b with
    | none => rw [hf, hg] at hr; cases hr
    | some r2 =>
    obtain ⟨hn, hm⟩ := findR_n hf
    obtain ⟨hn2, hm2⟩ := findR_n hg
    obtain ⟨ok, lt⟩ := h.rod r hm
    obtain ⟨⟨P, hP, hd⟩, thin, long, cap, one⟩ := ok
    obtain ⟨ok2, lt2⟩ := h.rod r2 hm2
    have c2 := ok2.cap
    have l2 := ok2.long
    refine h.of (st := eff (ps ++ qs) now (.fuse a b)) ?_ (by simp only [eff]; omega) (by simp only [eff]; omega) (by simp [eff]) (.inl rfl) (h.a0.up (Nat.le_succ k)) (h.a1.up (Nat.le_succ k)) (h.a2.up (Nat.le_succ k))
    simp only [eff, findR_some hf, findR_some hg]
    refine ((h.ro.mono (qs := qs) (Nat.le_succ k) (Int.le_refl _) (Nat.le_succ k)).drop b).set ⟨⟨P, hP.app, hd⟩, thin, by simp only; omega, p2_add cap c2 (by omega) (by omega), by simp only; omega⟩ (by simp only; omega)
theorem held_len (ps : List Pic) (r : Rod) : (heldL ps r).length = 10 := by simp [heldL, Pic.sums]
theorem held_rg {r : Rod} (h : RodOk ps k r) : ∀ x ∈ heldL ps r, 0 ≤ x ∧ x < 2 ^ (110 + 30 * k) := by
  obtain ⟨⟨P, hP, hd⟩, thin, long, cap, one⟩ := h
  intro x hx
  unfold heldL at hx
  rw [picF_of hP] at hx
  obtain ⟨m, hm, rfl⟩ := List.mem_map.mp hx
  simp only [Pic.sums, List.mem_map] at hm
  obtain ⟨i, _, rfl⟩ := hm
  have hb := cnt_bd P (i : Nat)
  have hp := pow4 (r.t.toNat - P.depth)
  have h1 : P.cnt (i : Nat) * 4 ^ (r.t.toNat - P.depth) ≤ 2 ^ 24 := by
    have e1 := Int.mul_le_mul_of_nonneg_right hb.2 (Int.le_of_lt hp)
    have e2 : (4 : Int) ^ P.depth * 4 ^ (r.t.toNat - P.depth) ≤ 2 ^ 24 := by
      rw [← pow4_add, four_two]
      exact p2_le (by omega)
    exact Int.le_trans e1 e2
  have h0 : 0 ≤ P.cnt (i : Nat) * 4 ^ (r.t.toNat - P.depth) := Int.mul_nonneg hb.1 (Int.le_of_lt hp)
  refine ⟨Int.mul_nonneg h0 (by omega), ?_⟩
  rw [Int.mul_comm]
  exact p2_mul (by omega) h0 cap h1 (by omega)
theorem held_app {r : Rod} (h : RodOk ps k r) : heldL (ps ++ qs) r = heldL ps r := by
  obtain ⟨⟨P, hP, hd⟩, _⟩ := h
  unfold heldL
  rw [picF_of hP, picF_of (hP.app (qs := qs))]
theorem ok_sell {now : SS} {n : Int} (h : StOk ps k now) (hr : refuse ps now (.sell n) = none) : StOk (ps ++ qs) (k + 1) (eff (ps ++ qs) now (.sell n)) := by
  unfold refuse at hr
  simp only at hr
  cases hf : findR now.rods n with
  | none => rw [hf] at hr; cases hr
  | some r =>
    have ok := (h.rod r (findR_n hf).2).1
    refine h.of (st := eff (ps ++ qs) now (.sell n)) ((h.ro.mono (qs := qs) (Nat.le_succ k) (Int.le_refl _) (Nat.le_succ k)).drop n) (by simp only [eff]; omega) (by simp only [eff]; omega) (by simp [eff]) (.inl rfl) (h.a0.up (Nat.le_succ k)) ?_ (h.a2.up (Nat.le_succ k))
    simp only [eff, findR_some hf, held_app ok]
    exact h.a1.add (held_len _ _) (held_rg ok)
theorem ok_waste {now : SS} {n : Int} (h : StOk ps k now) (hr : refuse ps now (.waste n) = none) : StOk (ps ++ qs) (k + 1) (eff (ps ++ qs) now (.waste n)) := by
  unfold refuse at hr
  simp only at hr
  cases hf : findR now.rods n with
  | none => rw [hf] at hr; cases hr
  | some r =>
    have ok := (h.rod r (findR_n hf).2).1
    refine h.of (st := eff (ps ++ qs) now (.waste n)) ((h.ro.mono (qs := qs) (Nat.le_succ k) (Int.le_refl _) (Nat.le_succ k)).drop n) (by simp only [eff]; omega) (by simp only [eff]; omega) (by simp [eff]) (.inl rfl) (h.a0.up (Nat.le_succ k)) (h.a1.up (Nat.le_succ k)) ?_
    simp only [eff, findR_some hf, held_app ok]
    exact h.a2.add (held_len _ _) (held_rg ok)
theorem mk_depth_le (a b c d : Pic) {t : Nat} (h1 : a.depth ≤ t) (h2 : b.depth ≤ t) (h3 : c.depth ≤ t) (h4 : d.depth ≤ t) : (Pic.mk a b c d).depth ≤ t + 1 := by
  unfold Pic.mk
  split
  · omega
  · simp only [Pic.depth]; omega
theorem ok_bundle {now : SS} {a b c d : Int} (h : StOk ps k now) (hr : refuse ps now (.bundle a b c d) = none) (hp : hasP (ps ++ qs) now (.bundle a b c d)) : StOk (ps ++ qs) (k + 1) (eff (ps ++ qs) now (.bundle a b c d)) := by
  unfold refuse at hr
  simp only at hr
  cases ha : findR now.rods a with
  | none => rw [ha] at hr; cases hr
  | some ra =>
  cases hb : findR now.rods b with
  | none => rw [ha, hb] at hr; cases hr
  | some rb =>
  cases hc : findR now.rods c with
  | none => rw [ha, hb, hc] at hr; cases hr
  | some rc =>
  cases hd : findR now.rods d with
  | none => rw [ha, hb, hc, hd] at hr; cases hr
  | some rd =>
    rw [ha, hb, hc, hd] at hr
    simp only at hr
    split at hr
    · cases hr
    split at hr
    · cases hr
    split at hr
    · cases hr
    rename_i _ u th
    have u := Decidable.not_not.mp u
    obtain ⟨⟨⟨PA, hPA, da⟩, tha, la, capa, _⟩, _⟩ := h.rod ra (findR_n ha).2
    obtain ⟨⟨⟨PB, hPB, db⟩, _⟩, _⟩ := h.rod rb (findR_n hb).2
    obtain ⟨⟨⟨PC, hPC, dc⟩, _⟩, _⟩ := h.rod rc (findR_n hc).2
    obtain ⟨⟨⟨PD, hPD, ddd⟩, _⟩, _⟩ := h.rod rd (findR_n hd).2
    unfold hasP at hp
    simp only [findR_some ha, findR_some hb, findR_some hc, findR_some hd, picF_of (hPA.app (qs := qs)), picF_of (hPB.app (qs := qs)), picF_of (hPC.app (qs := qs)), picF_of (hPD.app (qs := qs))] at hp
    have com1 := h.com1
    have hdep := mk_depth_le PA PB PC PD (t := ra.t.toNat) (by omega) (by omega) (by omega) (by omega)
    refine h.of (st := eff (ps ++ qs) now (.bundle a b c d)) ?_ (by simp only [eff]; omega) (by simp only [eff]; omega) (by simp [eff]) (.inr ⟨_, Pic.mk PA PB PC PD, rfl, ?_⟩) (h.a0.up (Nat.le_succ k)) (h.a1.up (Nat.le_succ k)) (h.a2.up (Nat.le_succ k))
    · simp only [eff, findR_some ha, findR_some hb, findR_some hc, findR_some hd, picF_of (hPA.app (qs := qs)), picF_of (hPB.app (qs := qs)), picF_of (hPC.app (qs := qs)), picF_of (hPD.app (qs := qs))]
      exact (((((h.ro.mono (qs := qs) (Nat.le_succ k) (Int.le_refl _) (Nat.le_refl k)).drop a).drop b).drop c).drop d).push ⟨⟨_, IsF.ix hp, by simp only; omega⟩, by simp only; omega, la, Int.lt_of_lt_of_le capa (p2_le (by omega)), com1⟩ rfl
    · simp only [findR_some ha, findR_some hb, findR_some hc, findR_some hd, picF_of (hPA.app (qs := qs)), picF_of (hPB.app (qs := qs)), picF_of (hPC.app (qs := qs)), picF_of (hPD.app (qs := qs))]
      exact IsF.ix hp
theorem eff_ok {now : SS} {dd : Deed} (h : StOk ps k now) (hr : refuse ps now dd = none) (hp : hasP (ps ++ qs) now dd) : StOk (ps ++ qs) (k + 1) (eff (ps ++ qs) now dd) := by
  cases dd with
  | gather c t l => exact ok_gather h hr hp
  | pull n s => exact ok_pull h hr
  | bundle a b c d => exact ok_bundle h hr hp
  | turn n t => exact ok_turn h hr hp
  | cut n l => exact ok_cut h hr
  | fuse a b => exact ok_fuse h hr
  | sell n => exact ok_sell h hr
  | waste n => exact ok_waste h hr
end
/-- the end of a deed that is not refused -/
theorem Does.fin {K : PySem.W.Frag} {H H' : Hp} {x : Ws} {dd : Deed} {Q : VK} {E : XK} (d : Does K H x dd Q E) (h : x.at K H) (hk : x.k < 1000) (hr : refuse x.ps x.now dd = none) {D' : Addr → Prop} {qs cs : List Pic} {B' : SB}
    (hF : FacesAt (He.ga K "Faces") H' x.p x.A D' (x.ps ++ qs)) (hB : Base cs (x.ps ++ qs)) (hl : cs.length ≤ x.bs.length + 1) (hp : hasP (x.ps ++ qs) x.now dd) (hS : ShopAt (He.ga K "Shop") H' x.s x.p B' (eff (x.ps ++ qs) x.now dd) (x.past ++ [x.now]) [])
    (ap : ∀ a ∈ B'.muts x.s, ¬ D' a) (kp : Keep x.foot H H') (lv : Live H H') (d2 : ∀ b, D' b → x.D b ∨ H b = none) (m : ∀ b ∈ B'.muts x.s, b ∈ x.B.muts x.s ∨ H b = none) : Q (ansV x.now dd) H' := by
  have hbl := h.bl
  have hpl := h.pl
  refine d.2 hr H' ⟨x.p, x.A, D', x.ps ++ qs, cs, x.s, B', eff (x.ps ++ qs) x.now dd, x.past ++ [x.now], [], x.k + 1⟩ ⟨hF, hB, hS, ap, fun st hst => ?_, by dsimp only; omega, by dsimp only; omega, by simp; omega⟩ ⟨rfl, rfl, rfl, ⟨qs, rfl⟩, kp, lv, d2, m⟩ rfl rfl rfl rfl hp
  rcases hst with rfl | z | z
  · exact eff_ok (h.ok _ (.inl rfl)) hr hp
  · rcases List.mem_append.mp z with z | z
    · exact (h.ok st (.inr (.inl z))).mono (Nat.le_succ _)
    · simp only [List.mem_singleton] at z
      rw [z]
      exact (h.ok _ (.inl rfl)).mono (Nat.le_succ _)
  · cases z
/-- .. where the store of faces stays as it is -/
theorem Does.fin0 {K : PySem.W.Frag} {H H' : Hp} {x : Ws} {dd : Deed} {Q : VK} {E : XK} (d : Does K H x dd Q E) (h : x.at K H) (hk : x.k < 1000) (hr : refuse x.ps x.now dd = none) {B' : SB} (hp : hasP x.ps x.now dd)
    (hS : ShopAt (He.ga K "Shop") H' x.s x.p B' (eff x.ps x.now dd) (x.past ++ [x.now]) []) (kp : Keep (fun b => b ∈ x.B.muts x.s) H H') (lv : Live H H') (m : ∀ b ∈ B'.muts x.s, b ∈ x.B.muts x.s ∨ H b = none) : Q (ansV x.now dd) H' := by
  have e : x.ps = x.ps ++ [] := (List.append_nil _).symm
  have hF : FacesAt (He.ga K "Faces") H' x.p x.A x.D x.ps := h.F.keep fun b o hb q => kp b o q fun z => h.ap b z hb
  refine d.fin h hk hr (D' := x.D) (qs := []) (cs := x.bs) (B' := B') (by rw [← e]; exact hF) (by rw [← e]; exact h.base) (Nat.le_succ _) (by rw [← e]; exact hp) (by rw [← e]; exact hS) (fun a ha => ?_) (kp.mono fun b hb => .inr hb) lv (fun b hb => .inl hb) m
  rcases m a ha with z | z
  · exact h.ap a z
  · exact h.F.nd z
/-- the shop's own things are written: the store of faces stands -/
theorem Ws.at.facesKeep {x : Ws} {K : PySem.W.Frag} {H H' : Hp} (h : x.at K H) (kp : Keep (fun b => b ∈ x.B.muts x.s) H H') : FacesAt (He.ga K "Faces") H' x.p x.A x.D x.ps := h.F.keep fun b o hb q => kp b o q fun z => h.ap b z hb
theorem Ws.at.apM {x : Ws} {K : PySem.W.Frag} {H : Hp} (h : x.at K H) {B' : SB} (m : ∀ b ∈ B'.muts x.s, b ∈ x.B.muts x.s ∨ H b = none) : ∀ a ∈ B'.muts x.s, ¬ x.D a := fun a ha => (m a ha).elim (h.ap a) h.F.nd
/-- the store has worked: the shop stands -/
theorem shopKeep {C CF : Addr} {H H' : Hp} {s p : Addr} {A : FA} {D : Addr → Prop} {ps : List Pic} {B : SB} {now : SS} {past ahead : List SS} (hS : ShopAt C H s p B now past ahead) (hF : FacesAt CF H p A D ps) (ap : ∀ a ∈ B.muts s, ¬ D a) (kp : Keep A.foot H H') : ShopAt C H' s p B now past ahead :=
  hS.stay (kp.tup hF) fun a ha o e => kp _ _ e (hF.ofFoot (ap a ha))
theorem apKeep {C : Addr} {H : Hp} {s p : Addr} {D D' : Addr → Prop} {B : SB} {now : SS} {past ahead : List SS} (hS : ShopAt C H s p B now past ahead) (ap : ∀ a ∈ B.muts s, ¬ D a) (d2 : ∀ b, D' b → D b ∨ H b = none) : ∀ a ∈ B.muts s, ¬ D' a := fun a ha => by
  obtain ⟨o, e, _⟩ := hS.there a ha
  exact fresh_not e (ap a ha) d2
/-- fresh behind a step is fresh ahead of it -/
theorem freshBack {F : Addr → Prop} {H H' : Hp} (kp : Keep F H H') (hf : ∀ b, F b → ∃ o, H' b = some o) {b : Addr} (z : H' b = none) : H b = none := by
  cases e : H b with
  | none => rfl
  | some o =>
    by_cases hb : F b
    · obtain ⟨o2, e2⟩ := hf b hb
      rw [e2] at z; cases z
    · rw [kp b o e hb] at z; cases z
/-- the shop as it is read (its rods may be locked) -/
structure ShopRd (C : Addr) (H : Hp) (s p : Addr) (B : SB) (now : SS) : Prop where
  ob : H s = some (.ins C B.dx (fsShop (.ref p) (.ref B.q.d) (.int now.com) (.ref B.q.am) (.ref B.q.b) (.ref B.q.dd) (.ref B.lb) (.ref B.la)))
  d : ∃ kvs, Rd H B.q.d (.dK kvs) ∧ RodsIn H kvs now.rods
theorem ShopAt.rd {C : Addr} {H : Hp} {s p : Addr} {B : SB} {now : SS} {past ahead : List SS} (h : ShopAt C H s p B now past ahead) : ShopRd C H s p B now := let ⟨kvs, a, b⟩ := h.cur.d; ⟨h.ob, kvs, .inl a, b⟩
theorem ShopRd.same {C : Addr} {H H' : Hp} {s p : Addr} {B : SB} {now : SS} (h : ShopRd C H s p B now) (e : Same H H') : ShopRd C H' s p B now := by
  obtain ⟨ob, kvs, a, b⟩ := h
  refine ⟨e _ _ ob, kvs, ?_, b.stay fun _ _ q => e _ _ q⟩
  rcases a with a | ⟨o, a⟩
  · exact .inl (e _ _ a)
  · exact .inr ⟨o, e _ _ a⟩
/-! ### sums of lists -/
def addTo (a v : List Int) (i : Nat) : List Int := a.mapIdx fun j x => x + (if j < i then v.getD j 0 else 0)
theorem addTo_zero (a v : List Int) : addTo a v 0 = a := by
  apply List.ext_getElem?
  intro i
  unfold addTo
  rw [List.getElem?_mapIdx]
  cases a[i]? <;> simp
theorem addTo_len (a v : List Int) (i : Nat) : (addTo a v i).length = a.length := by simp [addTo]
theorem addTo_get (a v : List Int) (i j : Nat) : (addTo a v i)[j]? = (a[j]?).map fun x => x + (if j < i then v.getD j 0 else 0) := by simp [addTo]
theorem addTo_at {a v : List Int} {i : Nat} (h : i < a.length) : (addTo a v i)[i]? = some (a.getD i 0) := by
  rw [addTo_get, if_neg (Nat.lt_irrefl i), List.getElem?_eq_getElem h]
  simp [h]
theorem addTo_step {a v : List Int} {i : Nat} (h : i < a.length) : (addTo a v i).set i (a.getD i 0 + v.getD i 0) = addTo a v (i + 1) := by
  apply List.ext_getElem?
  intro j
  rw [List.getElem?_set, addTo_get, addTo_get, addTo_len]
  by_cases e : i = j
  · subst e
    rw [if_pos rfl, if_pos h, if_pos (Nat.lt_succ_self i), List.getElem?_eq_getElem h]
    simp [h]
  · rw [if_neg e]
    by_cases hj : j < i
    · rw [if_pos hj, if_pos (by omega)]
    · rw [if_neg hj, if_neg (by omega)]
theorem addTo_end {a v : List Int} (ha : a.length = 10) (hv : v.length = 10) : addTo a v 10 = addL a v := by
  apply List.ext_getElem?
  intro j
  unfold addL
  rw [addTo_get, List.getElem?_zipWith]
  by_cases hj : j < 10
  · rw [List.getElem?_eq_getElem (by omega), List.getElem?_eq_getElem (by omega : j < v.length)]
    simp [hj, List.getD_eq_getElem?_getD, List.getElem?_eq_getElem (by omega : j < v.length)]
  · rw [List.getElem?_eq_none (by omega)]
    simp [List.getElem?_eq_none (by omega : v.length ≤ j)]
theorem addTo_rg {a v : List Int} {i : Nat} : True := trivial
def spDeed (K : PySem.W.Frag) (n : Nat) (mk : List Int → Option Deed) : Sp := fun vs H Q E => ∃ x : Ws, ∃ l : List Int, ∃ dd : Deed, vs = .ref x.s :: l.map V.int ∧ l.length = n ∧ mk l = some dd ∧ x.at K H ∧ x.k < 1000 ∧ Does K H x dd Q E
theorem spDeed_len {K : PySem.W.Frag} {n : Nat} {mk : List Int → Option Deed} {vs : List V} {H : Hp} {Q : VK} {E : XK} (h : spDeed K n mk vs H Q E) : vs.length = n + 1 := by
  obtain ⟨x, l, dd, rfl, hl, _⟩ := h
  simp [hl]
def mkGather : List Int → Option Deed | [c, t, l] => some (.gather c t l) | _ => none
def mkPull : List Int → Option Deed | [r, k] => some (.pull r k) | _ => none
def mkBundle : List Int → Option Deed | [a, b, c, d] => some (.bundle a b c d) | _ => none
def mkTurn : List Int → Option Deed | [r, k] => some (.turn r k) | _ => none
def mkCut : List Int → Option Deed | [r, k] => some (.cut r k) | _ => none
def mkFuse : List Int → Option Deed | [r, k] => some (.fuse r k) | _ => none
def mkSell : List Int → Option Deed | [r] => some (.sell r) | _ => none
def mkWaste : List Int → Option Deed | [r] => some (.waste r) | _ => none
theorem three {l : List Int} (h : l.length = 3) : ∃ a b c, l = [a, b, c] := by
  match l, h with
  | [a, b, c], _ => exact ⟨a, b, c, rfl⟩
theorem two {l : List Int} (h : l.length = 2) : ∃ a b, l = [a, b] := by
  match l, h with
  | [a, b], _ => exact ⟨a, b, rfl⟩
theorem four4 {l : List Int} (h : l.length = 4) : ∃ a b c d, l = [a, b, c, d] := by
  match l, h with
  | [a, b, c, d], _ => exact ⟨a, b, c, d, rfl⟩
theorem one1 {l : List Int} (h : l.length = 1) : ∃ a, l = [a] := by
  match l, h with
  | [a], _ => exact ⟨a, rfl⟩
abbrev shapesL : List (Str × Int) := [("gather", 3), ("pull", 2), ("bundle", 4), ("turn", 2), ("cut", 2), ("fuse", 2), ("sell", 1), ("waste", 1)]
def isIS : PyData → Bool
  | .int _ => true
  | .str _ => true
  | _ => false
def numOk : PyData → Bool
  | .int i => decide (0 ≤ i ∧ i ≤ 999999999999999999)
  | _ => false
def isDeed : List PyData → Bool
  | .str z :: r => decide (shapesL.lookup z = some (r.length : Int)) && r.all numOk
  | _ => false
def spIsDeed : Sp := fun vs H Q _ => ∃ a xs ds, vs = [.ref a] ∧ H a = some (.tup xs) ∧ DvAll H xs ds ∧ (∀ d ∈ ds, isIS d = true) ∧ ∀ H', Same H H' → Q (.bl (isDeed ds)) H'
def spRod (C N : Addr) : Sp := fun vs H Q E => ∃ s p B now, ∃ n : Int, vs = [.ref s, .int n] ∧ ShopRd C H s p B now ∧ (findR now.rods n = none → E (.ref N) none H) ∧ (∀ r a, findR now.rods n = some r → H a = some (.tup [.int r.f, .int r.t, .int r.l]) → Q (.ref a) H)
def spKept (C : Addr) : Sp := fun vs H Q E => ∃ s p B now past ahead, vs = [.ref s] ∧ ShopAt C H s p B now past ahead ∧ ∀ H' t q, Same H H' → H' t = some (.tup (keptV q now)) → SnapAt H' q now → q.muts.Nodup → (∀ a ∈ q.muts, H a = none) → H t = none → Q (.ref t) H'
def spBegan (C : Addr) : Sp := fun vs H Q E => ∃ s p B now past ahead, ∃ dt : Addr, ∃ dd : Deed, vs = [.ref s, .ref dt] ∧ ShopAt C H s p B now past ahead ∧ H dt = some (.tup dd.vals) ∧ past.length < 100000 ∧ now.deeds.length < 100000 ∧
  ∀ H' B', ShopAt C H' s p B' { now with deeds := now.deeds ++ [dd] } (past ++ [now]) [] → Keep (fun b => b ∈ B.muts s) H H' → Live H H' → (∀ b ∈ B'.muts s, b ∈ B.muts s ∨ H b = none) → Q .non H'
theorem deed_dv {H : Hp} {dt : Addr} {dd : Deed} (h : H dt = some (.tup dd.vals)) : Dv H (.ref dt) dd.data := .tup h (.cons (.str _) (DvAll.ints _))
def spNewRod (C : Addr) : Sp := fun vs H Q E => ∃ s p B now past ahead, ∃ f t l : Int, vs = [.ref s, .int f, .int t, .int l] ∧ ShopAt C H s p B now past ahead ∧ findR now.rods now.com = none ∧ now.rods.length < 100000 ∧
  ∀ H', ShopAt C H' s p B { now with rods := now.rods ++ [⟨now.com, f, t, l⟩], com := now.com + 1 } past ahead → Keep (fun b => b ∈ B.muts s) H H' → Live H H' → Q (.int now.com) H'
def spHeld (K : PySem.W.Frag) : Sp := fun vs H Q E => ∃ s p A D ps B now k, ∃ n : Int, vs = [.ref s, .int n] ∧ FacesAt (He.ga K "Faces") H p A D ps ∧ ShopRd (He.ga K "Shop") H s p B now ∧ StOk ps k now ∧ k ≤ 1000 ∧ (findR now.rods n = none → E (.ref (He.ga K "NoRod")) none H) ∧
  (∀ r, findR now.rods n = some r → ∀ H' l, Same H H' → H l = none → H' l = some (.lst ((heldL ps r).map V.int)) → Q (.ref l) H')
def spGone (K : PySem.W.Frag) : Sp := fun vs H Q E => ∃ x : Ws, ∃ n : Int, ∃ dd : Deed, (vs = [.ref x.s, .int n, .str "sell", .int 1] ∧ dd = .sell n ∨ vs = [.ref x.s, .int n, .str "waste", .int 2] ∧ dd = .waste n) ∧ x.at K H ∧ x.k < 1000 ∧ Does K H x dd Q E
theorem gone_len {K : PySem.W.Frag} {vs : List V} {H : Hp} {Q : VK} {E : XK} (h : spGone K vs H Q E) : vs.length = 4 := by
  obtain ⟨x, n, dd, ⟨rfl, _⟩ | ⟨rfl, _⟩, _⟩ := h <;> rfl
theorem refuse_none {ps : List Pic} {st : SS} {a b c d : Int} (h : findR st.rods a = none ∨ findR st.rods b = none ∨ findR st.rods c = none ∨ findR st.rods d = none) : refuse ps st (.bundle a b c d) = some ("NoRod" : Str) := by
  unfold refuse
  simp only
  cases ha : findR st.rods a with
  | none => rfl
  | some ra => cases hb : findR st.rods b with
    | none => rfl
    | some rb => cases hc : findR st.rods c with
      | none => rfl
      | some rc => cases hd : findR st.rods d with
        | none => rfl
        | some rd => rw [ha, hb, hc, hd] at h; rcases h with h | h | h | h <;> cases h
theorem findR_drop {rs : List Rod} {n m : Int} (h : n ≠ m) : findR (dropR rs m) n = findR rs n := by
  unfold findR dropR
  rw [List.find?_filter]
  congr 1
  funext r
  by_cases e : r.n = n
  · simp [e, h]
  · simp [e]
def dropAll (rs : List Rod) (ns : List Int) : List Rod := ns.foldl dropR rs
theorem dropAll_find {rs : List Rod} {n : Int} : ∀ {ns : List Int} {rs : List Rod}, n ∉ ns → findR (dropAll rs ns) n = findR rs n
  | [], _, _ => rfl
  | m :: ns, rs, h => by
    simp only [List.mem_cons, not_or] at h
    show findR (dropAll (dropR rs m) ns) n = _
    rw [dropAll_find (rs := rs) h.2, findR_drop h.1]
theorem RO.dropAll {ps : List Pic} {k : Nat} {c : Int} {m : Nat} : ∀ {ns : List Int} {rods : List Rod}, RO ps k c m rods → RO ps k c m (Mur.dropAll rods ns)
  | [], _, h => h
  | n :: ns, _, h => (h.drop n).dropAll
def noneYet : SS := ⟨[], 1, List.replicate 10 0, List.replicate 10 0, List.replicate 10 0, [], []⟩
def spInitS (C : Addr) : Sp := fun vs H Q _ => ∃ s dx p : Addr, vs = [.ref s, .ref p] ∧ H s = some (.ins C dx []) ∧ ∀ H' B, (∀ b o, H b = some o → b ≠ s → H' b = some o) → ShopAt C H' s p B noneYet [] [] → (∀ b ∈ B.muts s, b = s ∨ H b = none) → Q .non H'
theorem z_mkShop {C p : Addr} {σ : L2.St} {H : Hp} {Q : VK} {E : XK} {t : TA} (k : t σ H fun vs H1 => vs = [.ref p] ∧ ∀ H' s B, Same H1 H' → ShopAt C H' s p B noneYet [] [] → (∀ b ∈ B.muts s, H1 b = none) → Q (.ref s) H') (mono : ∀ (R R' : List V → Hp → Prop), (∀ vs H1, R vs H1 → R' vs H1) → t σ H R → t σ H R') : tMake C (spInitS C) [] E t σ H Q := by
  refine mono _ _ (fun vs H1 ⟨e, k⟩ => ?_) k
  subst e
  intro x dx hx hdx hne
  refine ⟨x, dx, p, rfl, upd_same, fun H' B h1 h2 h3 => ⟨rfl, k H' x B (fun b o e => h1 b o (by rw [upd_ne (ne_of_none e hx), upd_ne (ne_of_none e hdx)]; exact e) (ne_of_none e hx)) h2 fun b hb => ?_⟩⟩
  rcases h3 b hb with rfl | z
  · exact hx
  · by_cases e1 : b = x
    · rw [e1]; exact hx
    · rw [upd_ne e1] at z
      by_cases e2 : b = dx
      · rw [e2]; exact hdx
      · rw [upd_ne e2] at z; exact z
def insideTo (ps : List Pic) (rs : List Rod) : List Int := rs.foldl (fun acc r => addL acc (heldL ps r)) (List.replicate 10 0)
def glassRow (ps : List Pic) (st : SS) (j : Nat) : List Int := [st.a0.getD j 0, (insideTo ps st.rods).getD j 0, st.a1.getD j 0, st.a2.getD j 0]
def tupI (l : List Int) : PyData := .tuple (l.map PyData.int)
def glassD (ps : List Pic) (st : SS) : List PyData := (List.range 10).map fun j => tupI (glassRow ps st j)
def spGlass (K : PySem.W.Frag) : Sp := fun vs H Q E => ∃ x : Ws, vs = [.ref x.s] ∧ x.at K H ∧ ∀ H' l vs', Same H H' → H l = none → H' l = some (.lst vs') → DvAll H' vs' (glassD x.ps x.now) → (∀ v ∈ vs', ∃ t, v = .ref t ∧ H t = none) → Q (.ref l) H'
theorem insideTo_snoc (ps : List Pic) (rs : List Rod) (r : Rod) : insideTo ps (rs ++ [r]) = addL (insideTo ps rs) (heldL ps r) := by simp [insideTo, List.foldl_append]
theorem inside_len (ps : List Pic) : ∀ rs : List Rod, (insideTo ps rs).length = 10 := by
  have : ∀ (rs : List Rod) (acc : List Int), acc.length = 10 → (rs.foldl (fun acc r => addL acc (heldL ps r)) acc).length = 10 := by
    intro rs
    induction rs with
    | nil => intro acc h; exact h
    | cons r rs ih => intro acc h; exact ih _ (by simp [addL, h, held_len])
  exact fun rs => this rs _ (by simp)
theorem dvTupI {H : Hp} {t : Addr} {l : List Int} (h : H t = some (.tup (l.map V.int))) : Dv H (.ref t) (tupI l) := .tup h (DvAll.ints l)
def spBundled (K : PySem.W.Frag) : Sp := fun vs H Q E => ∃ x : Ws, vs = [.ref x.s] ∧ x.at K H ∧ ∀ H' l, Same H H' → H l = none → H' l = some (.lst (x.now.bun.map V.int)) → Q (.ref l) H'
def rodRow (r : Rod) : List Int := [r.n, r.f, r.t, r.l]
def rowsD (rs : List Rod) : List PyData := rs.map fun r => tupI (rodRow r)
def lookD (ps : List Pic) (st : SS) : PyData := .tuple [.list (rowsD st.rods), .int st.com, .list (glassD ps st), .list (st.bun.map PyData.int)]
/-- what look() tells, in the heap -/
structure LookAt (H : Hp) (t lr lg lb : Addr) (vr vg : List V) (ps : List Pic) (st : SS) : Prop where
  t : H t = some (.tup [.ref lr, .int st.com, .ref lg, .ref lb])
  r : H lr = some (.lst vr)
  dr : DvAll H vr (rowsD st.rods)
  g : H lg = some (.lst vg)
  dg : DvAll H vg (glassD ps st)
  b : H lb = some (.lst (st.bun.map V.int))
theorem LookAt.dv {H : Hp} {t lr lg lb : Addr} {vr vg : List V} {ps : List Pic} {st : SS} (h : LookAt H t lr lg lb vr vg ps st) : Dv H (.ref t) (lookD ps st) :=
  .tup h.t (.cons (.lst h.r h.dr) (.cons (.int _) (.cons (.lst h.g h.dg) (.cons (.lst h.b (DvAll.ints _)) .nil))))
theorem LookAt.same {H H' : Hp} {t lr lg lb : Addr} {vr vg : List V} {ps : List Pic} {st : SS} (h : LookAt H t lr lg lb vr vg ps st) (s : Same H H') : LookAt H' t lr lg lb vr vg ps st :=
  ⟨s _ _ h.t, s _ _ h.r, dvAll_same s h.dr, s _ _ h.g, dvAll_same s h.dg, s _ _ h.b⟩
theorem rows_flat : ∀ rs : List Rod, flatAll (rowsD rs) = true
  | [] => rfl
  | r :: rs => by simp only [rowsD, List.map_cons, flatAll]; rw [show flatAll (rs.map fun r => tupI (rodRow r)) = true from rows_flat rs]; simp [tupI, flat, flat_ints]
def spLook (K : PySem.W.Frag) : Sp := fun vs H Q E => ∃ x : Ws, vs = [.ref x.s] ∧ x.at K H ∧ x.now.rods.length < 64 ∧ ∀ H' t lr lg lb vr vg, Same H H' → LookAt H' t lr lg lb vr vg x.ps x.now → H t = none → H lr = none → H lg = none → H lb = none → Q (.ref t) H'
theorem sorted_same {ys ks : List Int} (hp : ys.Perm ks) (h1 : ys.Pairwise (· ≤ ·)) (h2 : ks.Pairwise (· < ·)) : ys = ks :=
  hp.eq_of_pairwise (fun a b _ _ h1 h2 => Int.le_antisymm h1 h2) h1 (h2.imp fun h => Int.le_of_lt h)
def Deed.items (d : Deed) : List PyData := .str d.name :: d.args.map PyData.int
theorem nums_of : ∀ {r : List PyData}, r.all numOk = true → ∃ l : List Int, r = l.map PyData.int
  | [], _ => ⟨[], rfl⟩
  | d :: r, h => by
    simp only [List.all_cons, Bool.and_eq_true] at h
    obtain ⟨l, e⟩ := nums_of h.2
    have h1 := h.1
    cases d with
    | int i => exact ⟨i :: l, by rw [e]; rfl⟩
    | _ => simp [numOk] at h1
theorem deed_of {ds : List PyData} (h : isDeed ds = true) : ∃ dd : Deed, ds = dd.items := by
  match ds, h with
  | .str z :: r, h =>
    have h : (decide (shapesL.lookup z = some (r.length : Int)) && r.all numOk) = true := h
    rw [Bool.and_eq_true, decide_eq_true_eq] at h
    obtain ⟨h1, h2⟩ := h
    obtain ⟨l, rfl⟩ := nums_of h2
    rw [List.length_map] at h1
    simp only [shapesL, List.lookup_cons, List.lookup_nil] at h1
    have key : ∀ {x : Str} {n : Int} {rest : Option Int}, (match z == x with | true => some n | false => rest) = some (l.length : Int) → (z = x ∧ (l.length : Int) = n) ∨ rest = some (l.length : Int) := fun {x n rest} e => by
      cases hb : z == x with
      | true => rw [hb] at e; exact .inl ⟨by simpa using hb, (Option.some.inj e).symm⟩
      | false => rw [hb] at e; exact .inr e
    rcases key h1 with ⟨rfl, e⟩ | h1
    · obtain ⟨a, b, c, rfl⟩ := three (l := l) (by omega)
      exact ⟨.gather a b c, rfl⟩
    rcases key h1 with ⟨rfl, e⟩ | h1
    · obtain ⟨a, b, rfl⟩ := two (l := l) (by omega)
      exact ⟨.pull a b, rfl⟩
    rcases key h1 with ⟨rfl, e⟩ | h1
    · obtain ⟨a, b, c, d, rfl⟩ := four4 (l := l) (by omega)
      exact ⟨.bundle a b c d, rfl⟩
    rcases key h1 with ⟨rfl, e⟩ | h1
    · obtain ⟨a, b, rfl⟩ := two (l := l) (by omega)
      exact ⟨.turn a b, rfl⟩
    rcases key h1 with ⟨rfl, e⟩ | h1
    · obtain ⟨a, b, rfl⟩ := two (l := l) (by omega)
      exact ⟨.cut a b, rfl⟩
    rcases key h1 with ⟨rfl, e⟩ | h1
    · obtain ⟨a, b, rfl⟩ := two (l := l) (by omega)
      exact ⟨.fuse a b, rfl⟩
    rcases key h1 with ⟨rfl, e⟩ | h1
    · obtain ⟨a, rfl⟩ := one1 (l := l) (by omega)
      exact ⟨.sell a, rfl⟩
    rcases key h1 with ⟨rfl, e⟩ | h1
    · obtain ⟨a, rfl⟩ := one1 (l := l) (by omega)
      exact ⟨.waste a, rfl⟩
    cases h1
theorem vals_ints {H : Hp} : ∀ {l : List Int} {vs : List V}, DvAll H vs (l.map PyData.int) → vs = l.map V.int
  | [], _, .nil => rfl
  | i :: l, _, .cons h t => by
    cases h
    rw [vals_ints t]; rfl
theorem vals_deed {H : Hp} {xs : List V} {dd : Deed} (h : DvAll H xs dd.items) : xs = dd.vals := by
  cases h with
  | cons h t =>
    cases h
    rw [vals_ints t]; rfl
def spDo (K : PySem.W.Frag) : Sp := fun vs H Q E => ∃ x : Ws, ∃ a xs ds, vs = [.ref x.s, .ref a] ∧ H a = some (.tup xs) ∧ DvAll H xs ds ∧ (∀ d ∈ ds, isIS d = true) ∧ x.at K H ∧ x.k < 1000 ∧ (isDeed ds = false → ∀ H', Same H H' → E (.ref (He.ga K "BadDeed")) none H') ∧ (∀ dd : Deed, ds = dd.items → isDeed ds = true → Does K H x dd Q E)
theorem row_at {H : Hp} {vr : List V} {rs : List Rod} (h : DvAll H vr (rowsD rs)) {i : Nat} {v : V} (e : vr[i]? = some v) : ∃ r t, rs[i]? = some r ∧ v = .ref t ∧ H t = some (.tup [.int r.n, .int r.f, .int r.t, .int r.l]) := by
  obtain ⟨d, e1, e2⟩ := h.get e
  unfold rowsD at e1
  rw [List.getElem?_map] at e1
  cases e3 : rs[i]? with
  | none => rw [e3] at e1; cases e1
  | some r =>
    rw [e3] at e1
    obtain rfl := Option.some.inj e1
    cases e2 with
    | @tup t xs _ ht ha =>
    obtain rfl : xs = (rodRow r).map V.int := vals_ints ha
    exact ⟨r, t, rfl, rfl, ht⟩
theorem rows_len {H : Hp} {vr : List V} {rs : List Rod} (h : DvAll H vr (rowsD rs)) : vr.length = rs.length := by rw [h.len]; simp [rowsD]
/-- a new list of ints -/
def IntsAt (H : Hp) (L : Addr) (ns : List Int) : Prop := H L = some (.lst (ns.map V.int))
/-! shapes of data that are compared -/
theorem lay_ints : ∀ ns : List Int, PyData.canLayAll0 (ns.map PyData.int) = true
  | [] => rfl
  | n :: ns => by simp [PyData.canLayAll0, PyData.canLay0, lay_ints ns]
theorem dep_ints : ∀ ns : List Int, PyData.depthAll (ns.map PyData.int) = 0
  | [] => rfl
  | n :: ns => by simp [PyData.depthAll, PyData.depth, dep_ints ns]
theorem shaped_ints (ns : List Int) : SeqAt.shaped (.list (ns.map PyData.int)) = true := by simp [SeqAt.shaped, PyData.canLay0, lay_ints, PyData.depth, dep_ints]
theorem rowsD_cons (r : Rod) (rs : List Rod) : rowsD (r :: rs) = .tuple [.int r.n, .int r.f, .int r.t, .int r.l] :: rowsD rs := rfl
theorem lay_rows : ∀ rs : List Rod, PyData.canLayAll0 (rowsD rs) = true
  | [] => rfl
  | r :: rs => by
    rw [rowsD_cons, PyData.canLayAll0, lay_rows rs]
    rfl
theorem dep_rows : ∀ rs : List Rod, PyData.depthAll (rowsD rs) ≤ 1
  | [] => Nat.zero_le _
  | r :: rs => by
    have := dep_rows rs
    rw [rowsD_cons, PyData.depthAll]
    simp only [PyData.depth, PyData.depthAll]
    omega
theorem shaped_rows (rs : List Rod) : SeqAt.shaped (.list (rowsD rs)) = true := by
  have := dep_rows rs
  simp [SeqAt.shaped, PyData.canLay0, lay_rows, PyData.depth]; omega
theorem eqv_rows_nil (rs : List Rod) : PyData.eqv (.list (rowsD rs)) (.list []) = decide (rs = []) := by
  cases rs <;> simp [rowsD, PyData.eqv, PyData.eqvAll]
theorem eqv_ints_nil (ns : List Int) : PyData.eqv (.list (ns.map PyData.int)) (.list []) = decide (ns = []) := by
  cases ns <;> simp [PyData.eqv, PyData.eqvAll]
theorem z_ansS {tt : TT} {σ : L2.St} {H : Hp} {TQ : Bool → Hp → Prop} (b : Bool) (h : ∀ R : Bool → Hp → Prop, (∀ H', Same H H' → R b H') → tt σ H R) (k : ∀ H', Same H H' → TQ b H') : tt σ H TQ := h _ k
def menuN : List Str := ["gather", "bundle", "turn", "pull", "cut", "fuse", "sell", "waste"]
/-- the refusals that a deed may meet -/
theorem refuse_in {ps : List Pic} {st : SS} {dd : Deed} {c : Str} (h : refuse ps st dd = some c) : c ∈ (["BadColour", "BadThickness", "BadLength", "NoRod", "BadSteps", "TooThin", "Twice", "Unlike", "TooThick", "BadTurn"] : List Str) := by
  have fin : ∀ {p : Prop} [Decidable p] {x c : Str} {o : Option Str}, (if p then some x else o) = some c → c = x ∨ o = some c := fun {p _ x c o} e => by
    by_cases hp : p
    · rw [if_pos hp] at e; exact .inl (Option.some.inj e).symm
    · rw [if_neg hp] at e; exact .inr e
  have nn : ∀ {c : Str} {P : Prop}, (none : Option Str) = some c → P := fun e => by cases e
  cases dd with
  | gather a t l =>
    unfold refuse at h; simp only at h
    rcases fin h with rfl | h
    · simp
    rcases fin h with rfl | h
    · simp
    rcases fin h with rfl | h
    · simp
    exact nn h
  | pull n k =>
    unfold refuse at h; simp only at h
    cases e : findR st.rods n with
    | none => rw [e] at h; obtain rfl := (Option.some.inj h); simp
    | some r =>
      rw [e] at h; simp only at h
      rcases fin h with rfl | h
      · simp
      rcases fin h with rfl | h
      · simp
      exact nn h
  | bundle a b c' d =>
    by_cases hn : findR st.rods a = none ∨ findR st.rods b = none ∨ findR st.rods c' = none ∨ findR st.rods d = none
    · rw [refuse_none hn] at h; obtain rfl := (Option.some.inj h); simp
    · simp only [not_or] at hn
      obtain ⟨h1, h2, h3, h4⟩ := hn
      unfold refuse at h; simp only at h
      cases e1 : findR st.rods a with
      | none => exact absurd e1 h1
      | some ra => cases e2 : findR st.rods b with
        | none => exact absurd e2 h2
        | some rb => cases e3 : findR st.rods c' with
          | none => exact absurd e3 h3
          | some rc => cases e4 : findR st.rods d with
            | none => exact absurd e4 h4
            | some rd =>
              rw [e1, e2, e3, e4] at h; simp only at h
              rcases fin h with rfl | h
              · simp
              rcases fin h with rfl | h
              · simp
              rcases fin h with rfl | h
              · simp
              exact nn h
  | turn n t =>
    unfold refuse at h; simp only at h
    cases e : findR st.rods n with
    | none => rw [e] at h; obtain rfl := (Option.some.inj h); simp
    | some r =>
      rw [e] at h; simp only at h
      rcases fin h with rfl | h
      · simp
      exact nn h
  | cut n l =>
    unfold refuse at h; simp only at h
    cases e : findR st.rods n with
    | none => rw [e] at h; obtain rfl := (Option.some.inj h); simp
    | some r =>
      rw [e] at h; simp only at h
      rcases fin h with rfl | h
      · simp
      exact nn h
  | fuse a b =>
    unfold refuse at h; simp only at h
    cases e : findR st.rods a with
    | none => rw [e] at h; obtain rfl := (Option.some.inj h); simp
    | some r =>
      cases e2 : findR st.rods b with
      | none => rw [e, e2] at h; obtain rfl := (Option.some.inj h); simp
      | some r2 =>
        rw [e, e2] at h; simp only at h
        rcases fin h with rfl | h
        · simp
        rcases fin h with rfl | h
        · simp
        exact nn h
  | sell n =>
    unfold refuse at h; simp only at h
    cases e : findR st.rods n with
    | none => rw [e] at h; obtain rfl := (Option.some.inj h); simp
    | some r => rw [e] at h; exact nn h
  | waste n =>
    unfold refuse at h; simp only at h
    cases e : findR st.rods n with
    | none => rw [e] at h; obtain rfl := (Option.some.inj h); simp
    | some r => rw [e] at h; exact nn h
theorem Gone.refl {x : Ws} {H H' : Hp} (s : Same H H') : Gone H x H' x := ⟨rfl, rfl, rfl, ⟨[], (List.append_nil _).symm⟩, s.keep, s.live, fun _ h => .inl h, fun _ h => .inl h⟩
theorem Gone.trans {x y z : Ws} {H H1 H2 : Hp} (a : Gone H x H1 y) (b : Gone H1 y H2 z) : Gone H x H2 z := by
  obtain ⟨q1, e1⟩ := a.ext
  obtain ⟨q2, e2⟩ := b.ext
  have bf : ∀ c, y.foot c → x.foot c ∨ H c = none := fun c hc => by
    rcases hc with hc | hc
    · rw [a.A] at hc; exact .inl (.inl hc)
    · exact (a.m c hc).imp .inr id
  refine ⟨b.p.trans a.p, b.A.trans a.A, b.s.trans a.s, ⟨q1 ++ q2, by rw [e2, e1, List.append_assoc]⟩, fun c o e n => b.keep c o (a.keep c o e n) fun z => (bf c z).elim n fun y => (by rw [y] at e; cases e), a.live.trans b.live, fun c hc => ?_, fun c hc => ?_⟩
  · rcases b.D c hc with h | h
    · exact a.D c h
    · exact .inr (a.live c h)
  · rcases b.m c hc with h | h
    · exact a.m c h
    · exact .inr (a.live c h)
theorem items_inj {d e : Deed} (h : d.items = e.items) : d = e := by
  cases d <;> cases e <;> simp [Deed.items, Deed.name, Deed.args] at h <;> first
    | exact absurd h.1 (by decide)
    | (obtain ⟨h1, h2, h3, h4⟩ := h; subst h1; subst h2; subst h3; subst h4; rfl)
    | (obtain ⟨h1, h2, h3⟩ := h; subst h1; subst h2; subst h3; rfl)
    | (obtain ⟨h1, h2⟩ := h; subst h1; subst h2; rfl)
    | (subst h; rfl)
theorem items_is (d : Deed) : ∀ x ∈ d.items, isIS x = true := by
  intro x hx
  unfold Deed.items at hx
  rcases List.mem_cons.mp hx with rfl | hx
  · rfl
  · obtain ⟨i, _, rfl⟩ := List.mem_map.mp hx
    rfl
def Done (H' : Hp) (r : Addr) (x y : Ws) (dd : Deed) : Prop :=
  (H' r = some (.tup [.str "refused", .non]) ∧ y = x ∧ (isDeed dd.items = false ∨ (refuse x.ps x.now dd).isSome = true)) ∨
  (H' r = some (.tup [.str "", ansV x.now dd]) ∧ isDeed dd.items = true ∧ refuse x.ps x.now dd = none ∧ y.now = eff y.ps x.now dd ∧ y.past = x.past ++ [x.now] ∧ y.ahead = [] ∧ y.k = x.k + 1 ∧ hasP y.ps x.now dd)
def spDone (K : PySem.W.Frag) : Sp := fun vs H Q _ => ∃ x : Ws, ∃ t, ∃ dd : Deed, vs = [.ref x.s, .ref t] ∧ x.at K H ∧ x.k < 1000 ∧ H t = some (.tup dd.vals) ∧ ∀ H' r y, y.at K H' → Gone H x H' y → y.k ≤ x.k + 1 → Done H' r x y dd → Q (.ref r) H'
end Mur
/-! What is due of deeds: told stands. -/
namespace Mur
open PySem hiding start
open PySem.Spec L2
open PyProof.Rows hiding St
section
variable {ps qs : List Pic} {k : Nat} {st : SS} {dd : Deed} {r : Rod}
theorem RodOk.pic_app (h : RodOk ps k r) : picF (ps ++ qs) r.f = picF ps r.f := by
  obtain ⟨P, hP, _⟩ := h.pic
  rw [picF_of hP, picF_of (hP.app (qs := qs))]
theorem RodOk.depth_app (h : RodOk ps k r) : depthF (ps ++ qs) r.f = depthF ps r.f := by
  obtain ⟨P, hP, _⟩ := h.pic
  rw [depthF_of hP, depthF_of (hP.app (qs := qs))]
theorem StOk.find (h : StOk ps k st) {n : Int} (hf : findR st.rods n = some r) : RodOk ps k r := (h.rod r (findR_n hf).2).1
theorem refuse_app (h : StOk ps k st) : refuse (ps ++ qs) st dd = refuse ps st dd := by
  cases dd with
  | pull n m =>
    unfold refuse
    simp only
    cases e : findR st.rods n with
    | none => rfl
    | some r => simp only [(h.find e).depth_app]
  | _ => rfl
theorem found {n : Int} {c : Str} {f : Rod → Option Str} (h : (match findR st.rods n with | none => some c | some r => f r) = none) : ∃ r, findR st.rods n = some r := by
  cases e : findR st.rods n with
  | none => rw [e] at h; cases h
  | some r => exact ⟨r, rfl⟩
theorem hasP_app (h : StOk ps k st) (hr : refuse ps st dd = none) (hp : hasP ps st dd) : hasP (ps ++ qs) st dd := by
  cases dd with
  | gather c t l => exact List.mem_append_left _ hp
  | turn n t =>
    obtain ⟨r, e⟩ := found (st := st) hr
    unfold hasP at hp ⊢
    simp only [findR_some e, (h.find e).pic_app] at hp ⊢
    exact List.mem_append_left _ hp
  | bundle a b c d =>
    by_cases hn : findR st.rods a = none ∨ findR st.rods b = none ∨ findR st.rods c = none ∨ findR st.rods d = none
    · rw [refuse_none hn] at hr; cases hr
    · simp only [not_or] at hn
      obtain ⟨h1, h2, h3, h4⟩ := hn
      obtain ⟨r1, e1⟩ := Option.ne_none_iff_exists'.mp h1
      obtain ⟨r2, e2⟩ := Option.ne_none_iff_exists'.mp h2
      obtain ⟨r3, e3⟩ := Option.ne_none_iff_exists'.mp h3
      obtain ⟨r4, e4⟩ := Option.ne_none_iff_exists'.mp h4
      unfold hasP at hp ⊢
      simp only [findR_some e1, findR_some e2, findR_some e3, findR_some e4, (h.find e1).pic_app, (h.find e2).pic_app, (h.find e3).pic_app, (h.find e4).pic_app] at hp ⊢
      exact List.mem_append_left _ hp
  | _ => trivial
theorem eff_app (h : StOk ps k st) (hr : refuse ps st dd = none) (hp : hasP ps st dd) : eff (ps ++ qs) st dd = eff ps st dd := by
  cases dd with
  | gather c t l => unfold eff; simp only [ix_app (qs := qs) (show Pic.p c ∈ ps from hp)]
  | turn n t =>
    obtain ⟨r, e⟩ := found (st := st) hr
    unfold hasP at hp
    simp only [findR_some e] at hp
    unfold eff
    simp only [findR_some e, (h.find e).pic_app, ix_app (qs := qs) hp]
  | bundle a b c d =>
    by_cases hn : findR st.rods a = none ∨ findR st.rods b = none ∨ findR st.rods c = none ∨ findR st.rods d = none
    · rw [refuse_none hn] at hr; cases hr
    · simp only [not_or] at hn
      obtain ⟨h1, h2, h3, h4⟩ := hn
      obtain ⟨r1, e1⟩ := Option.ne_none_iff_exists'.mp h1
      obtain ⟨r2, e2⟩ := Option.ne_none_iff_exists'.mp h2
      obtain ⟨r3, e3⟩ := Option.ne_none_iff_exists'.mp h3
      obtain ⟨r4, e4⟩ := Option.ne_none_iff_exists'.mp h4
      unfold hasP at hp
      simp only [findR_some e1, findR_some e2, findR_some e3, findR_some e4] at hp
      unfold eff
      simp only [findR_some e1, findR_some e2, findR_some e3, findR_some e4, (h.find e1).pic_app, (h.find e2).pic_app, (h.find e3).pic_app, (h.find e4).pic_app, ix_app (qs := qs) hp]
  | sell n =>
    obtain ⟨r, e⟩ := found (st := st) hr
    unfold eff
    simp only [findR_some e, held_app (h.find e)]
  | waste n =>
    obtain ⟨r, e⟩ := found (st := st) hr
    unfold eff
    simp only [findR_some e, held_app (h.find e)]
  | _ => rfl
/-! ### the glass in rods -/
def inJ (ps : List Pic) (rs : List Rod) (j : Nat) : Int := (rs.map fun r => (heldL ps r).getD j 0).sum
theorem addL_get {a b : List Int} (ha : a.length = 10) (hb : b.length = 10) (j : Nat) : (addL a b).getD j 0 = a.getD j 0 + b.getD j 0 := by
  simp only [List.getD_eq_getElem?_getD, addL, List.getElem?_zipWith]
  by_cases hj : j < 10
  · rw [List.getElem?_eq_getElem (by omega), List.getElem?_eq_getElem (by omega)]; rfl
  · rw [List.getElem?_eq_none (by omega), List.getElem?_eq_none (by omega)]; rfl
theorem addL_len {a b : List Int} (ha : a.length = 10) (hb : b.length = 10) : (addL a b).length = 10 := by simp [addL, ha, hb]
theorem foldl_get (j : Nat) : ∀ (rs : List Rod) (acc : List Int), acc.length = 10 → (rs.foldl (fun acc r => addL acc (heldL ps r)) acc).getD j 0 = acc.getD j 0 + inJ ps rs j
  | [], acc, _ => by simp [inJ]
  | r :: rs, acc, h => by
    rw [List.foldl_cons, foldl_get j rs _ (addL_len h (held_len _ _)), addL_get h (held_len _ _)]
    simp [inJ]
    omega
theorem inside_get (rs : List Rod) (j : Nat) : (insideTo ps rs).getD j 0 = inJ ps rs j := by
  have z : (List.replicate 10 (0 : Int)).getD j 0 = 0 := by
    rw [List.getD_eq_getElem?_getD, List.getElem?_replicate]
    split <;> rfl
  unfold insideTo
  rw [foldl_get j rs _ (by simp), z, Int.zero_add]
theorem inside_eq {rs rs' : List Rod} (h : ∀ j, inJ ps rs j = inJ ps rs' j) : insideTo ps rs = insideTo ps rs' := by
  apply List.ext_getElem?
  intro j
  have e := h j
  rw [← inside_get, ← inside_get] at e
  simp only [List.getD_eq_getElem?_getD] at e
  have l1 := inside_len ps rs
  have l2 := inside_len ps rs'
  by_cases hj : j < 10
  · rw [List.getElem?_eq_getElem (by omega), List.getElem?_eq_getElem (by omega)] at e ⊢
    exact congrArg some e
  · rw [List.getElem?_eq_none (by omega), List.getElem?_eq_none (by omega)]
theorem inside_app {rs : List Rod} (h : ∀ r ∈ rs, RodOk ps k r) : insideTo (ps ++ qs) rs = insideTo ps rs := by
  unfold insideTo
  generalize List.replicate 10 (0 : Int) = acc
  induction rs generalizing acc with
  | nil => rfl
  | cons r rs ih =>
    rw [List.foldl_cons, List.foldl_cons, held_app (h r List.mem_cons_self)]
    exact ih (fun x hx => h x (List.mem_cons_of_mem _ hx)) _
/-- rows of the glass -/
def glassOf (a0 a1 a2 ins : List Int) : List PyData := (List.range 10).map fun j => tupI [a0.getD j 0, ins.getD j 0, a1.getD j 0, a2.getD j 0]
theorem glassD_of (ps : List Pic) (st : SS) : glassD ps st = glassOf st.a0 st.a1 st.a2 (insideTo ps st.rods) := rfl
theorem look_app (h : StOk ps k st) : lookD (ps ++ qs) st = lookD ps st := by
  unfold lookD
  rw [glassD_of, glassD_of, inside_app fun r hr => (h.rod r hr).1]
theorem LookAt.glass {H : Hp} {t lr lg lb : Addr} {vr vg : List V} (h : LookAt H t lr lg lb vr vg ps st) {qs' : List Pic} (e : glassD qs' st = glassD ps st) : LookAt H t lr lg lb vr vg qs' st := ⟨h.t, h.r, h.dr, h.g, by rw [e]; exact h.dg, h.b⟩
theorem LookAt.app {H : Hp} {t lr lg lb : Addr} {vr vg : List V} (h : LookAt H t lr lg lb vr vg ps st) (ok : StOk ps k st) : LookAt H t lr lg lb vr vg (ps ++ qs) st := h.glass (by rw [glassD_of, glassD_of, inside_app fun r hr => (ok.rod r hr).1])
theorem glass_flat (a0 a1 a2 ins : List Int) : flatAll (glassOf a0 a1 a2 ins) = true := by
  unfold glassOf
  generalize List.range 10 = l
  induction l with
  | nil => rfl
  | cons j l ih =>
    rw [List.map_cons, flatAll, ih]
    simp [tupI, flat, flatAll]
theorem LookAt.keep {H H' : Hp} {t lr lg lb : Addr} {vr vg : List V} (h : LookAt H t lr lg lb vr vg ps st) (kt : ∀ a xs, H a = some (.tup xs) → H' a = some (.tup xs)) (k1 : ∀ o, H lr = some o → H' lr = some o) (k2 : ∀ o, H lg = some o → H' lg = some o) (k3 : ∀ o, H lb = some o → H' lb = some o) : LookAt H' t lr lg lb vr vg ps st :=
  ⟨kt _ _ h.t, k1 _ h.r, dvAll_stay kt (rows_flat _) h.dr, k2 _ h.g, dvAll_stay kt (glass_flat _ _ _ _) h.dg, k3 _ h.b⟩
end
theorem Ws.at.tup {x : Ws} {K : PySem.W.Frag} {H H' : Hp} (h : x.at K H) (kp : Keep x.foot H H') : ∀ a xs, H a = some (.tup xs) → H' a = some (.tup xs) := fun a xs e => kp _ _ e fun z => by
  rcases z with z | z
  · exact foot_tup h.F e z
  · obtain ⟨o, q, nt⟩ := h.S.there a z
    rw [e] at q
    exact nt xs (Option.some.inj q).symm
theorem Gone.nf {x y : Ws} {H H' : Hp} (g : Gone H x H' y) {b : Addr} {o : HO} (e : H b = some o) (n : ¬ x.foot b) : ¬ y.foot b := fun z => by
  rcases z with z | z
  · rw [g.A] at z; exact n (.inl z)
  · rcases g.m b z with w | w
    · exact n (.inr w)
    · rw [e] at w; cases w
/-- a told stand, apart from the shop's own things -/
structure Told (H : Hp) (x : Ws) (t : Addr) (ps : List Pic) (st : SS) : Prop where
  ex : ∃ lr lg lb vr vg, LookAt H t lr lg lb vr vg ps st ∧ ¬ x.foot lr ∧ ¬ x.foot lg ∧ ¬ x.foot lb
theorem Told.gone {x y : Ws} {K : PySem.W.Frag} {H H' : Hp} {t : Addr} {ps : List Pic} {st : SS} (h : Told H x t ps st) (a : x.at K H) (g : Gone H x H' y) : Told H' y t ps st := by
  obtain ⟨lr, lg, lb, vr, vg, l, n1, n2, n3⟩ := h.ex
  exact ⟨lr, lg, lb, vr, vg, l.keep (a.tup g.keep) (fun o e => g.keep _ _ e n1) (fun o e => g.keep _ _ e n2) (fun o e => g.keep _ _ e n3), g.nf l.r n1, g.nf l.g n2, g.nf l.b n3⟩
theorem Told.dv {H : Hp} {x : Ws} {t : Addr} {ps : List Pic} {st : SS} (h : Told H x t ps st) : Dv H (.ref t) (lookD ps st) := by
  obtain ⟨lr, lg, lb, vr, vg, l, _⟩ := h.ex
  exact l.dv
theorem Told.same {x : Ws} {H H' : Hp} {t : Addr} {ps : List Pic} {st : SS} (h : Told H x t ps st) (s : Same H H') : Told H' x t ps st := by
  obtain ⟨lr, lg, lb, vr, vg, l, n⟩ := h.ex
  exact ⟨lr, lg, lb, vr, vg, l.same s, n⟩
/-- what is due -/
def DueR (H : Hp) (y : Ws) (r : Addr) (dd : Deed) : Prop :=
  (∃ w t, refuse y.ps y.now dd = some w ∧ H r = some (.tup [.str w, .non, .ref t]) ∧ Told H y t y.ps y.now) ∨
  (refuse y.ps y.now dd = none ∧ ∃ t, H r = some (.tup [.str "", ansV y.now dd, .ref t]) ∧ hasP y.ps y.now dd ∧ Told H y t y.ps (eff y.ps y.now dd))
def TellR (H : Hp) (r : Addr) (y z : Ws) (dd : Deed) : Prop :=
  (∃ w, refuse y.ps y.now dd = some w ∧ z = y ∧ H r = some (.tup [.str w, .non])) ∨
  (refuse y.ps y.now dd = none ∧ z.now = eff z.ps y.now dd ∧ H r = some (.tup [.str "", ansV y.now dd]))
def spDue (K : PySem.W.Frag) (n : Nat) (mk : List Int → Option Deed) : Sp := fun vs H Q _ => ∃ x : Ws, ∃ t, ∃ l : List Int, ∃ dd : Deed, vs = .ref x.p :: .ref t :: l.map V.int ∧ l.length = n ∧ mk l = some dd ∧ x.at K H ∧ x.k < 1000 ∧ Told H x t x.ps x.now ∧
  ∀ H' y r, y.at K H' → Gone H x H' y → y.now = x.now → y.k ≤ x.k + 1 → DueR H' y r dd → Q (.ref r) H'
theorem spDue_len {K : PySem.W.Frag} {n : Nat} {mk : List Int → Option Deed} {vs : List V} {H : Hp} {Q : VK} {E : XK} (h : spDue K n mk vs H Q E) : vs.length = n + 2 := by
  obtain ⟨x, t, l, dd, rfl, hl, _⟩ := h
  simp [hl]
def spTell (K : PySem.W.Frag) (n : Nat) (mk : List Int → Option Deed) : Sp := fun vs H Q _ => ∃ x : Ws, ∃ l : List Int, ∃ dd : Deed, vs = .ref x.s :: l.map V.int ∧ l.length = n ∧ mk l = some dd ∧ x.at K H ∧ x.k < 1000 ∧
  ∀ H' z r, z.at K H' → Gone H x H' z → z.k ≤ x.k + 1 → TellR H' r x z dd → Q (.ref r) H'
theorem spTell_len {K : PySem.W.Frag} {n : Nat} {mk : List Int → Option Deed} {vs : List V} {H : Hp} {Q : VK} {E : XK} (h : spTell K n mk vs H Q E) : vs.length = n + 1 := by
  obtain ⟨x, l, dd, rfl, hl, _⟩ := h
  simp [hl]
def spInside (K : PySem.W.Frag) : Sp := fun vs H Q _ => ∃ p A D ps rs k lr vr, vs = [.ref p, .ref lr] ∧ FacesAt (He.ga K "Faces") H p A D ps ∧ H lr = some (.lst vr) ∧ DvAll H vr (rowsD rs) ∧ (∀ r ∈ rs, RodOk ps k r) ∧ k ≤ 2000 ∧
  ∀ H' l, Same H H' → H l = none → H' l = some (.lst ((insideTo ps rs).map V.int)) → Q (.ref l) H'
def spStand (K : PySem.W.Frag) : Sp := fun vs H Q _ => ∃ p A D ps rs k lr, ∃ com : Int, ∃ lg lb vr vg a0 a1 a2 ins, vs = [.ref p, .ref lr, .int com, .ref lg, .ref lb] ∧ FacesAt (He.ga K "Faces") H p A D ps ∧ H lr = some (.lst vr) ∧ DvAll H vr (rowsD rs) ∧ (∀ r ∈ rs, RodOk ps k r) ∧ k ≤ 2000 ∧
  H lg = some (.lst vg) ∧ DvAll H vg (glassOf a0 a1 a2 ins) ∧
  ∀ H' t lt vt, Same H H' → H' t = some (.tup [.ref lr, .int com, .ref lt, .ref lb]) → H' lt = some (.lst vt) → DvAll H' vt (glassOf a0 a1 a2 (insideTo ps rs)) → H lt = none → Q (.ref t) H'
theorem glass_at {H : Hp} {vg : List V} {a0 a1 a2 ins : List Int} (h : DvAll H vg (glassOf a0 a1 a2 ins)) {i : Nat} {v : V} (e : vg[i]? = some v) : i < 10 ∧ ∃ t, v = .ref t ∧ H t = some (.tup [.int (a0.getD i 0), .int (ins.getD i 0), .int (a1.getD i 0), .int (a2.getD i 0)]) := by
  have hi : i < 10 := by
    have h1 := (List.getElem?_eq_some_iff.mp e).1
    have h2 := h.len
    simp [glassOf] at h2
    omega
  obtain ⟨d, e1, e2⟩ := h.get e
  unfold glassOf at e1
  rw [List.getElem?_map, List.getElem?_range hi] at e1
  obtain rfl := Option.some.inj e1
  cases e2 with
  | @tup t xs _ ht ha =>
    obtain rfl := vals_ints ha
    exact ⟨hi, t, rfl, ht⟩
def glassTo (a0 a1 a2 ins : List Int) (i : Nat) : List PyData := (List.range i).map fun j => tupI [a0.getD j 0, ins.getD j 0, a1.getD j 0, a2.getD j 0]
theorem glassTo_succ (a0 a1 a2 ins : List Int) (i : Nat) : glassTo a0 a1 a2 ins (i + 1) = glassTo a0 a1 a2 ins i ++ [tupI [a0.getD i 0, ins.getD i 0, a1.getD i 0, a2.getD i 0]] := by
  simp [glassTo, List.range_succ]
theorem glassTo_flat (a0 a1 a2 ins : List Int) (i : Nat) : flatAll (glassTo a0 a1 a2 ins i) = true := by
  unfold glassTo
  generalize List.range i = l
  induction l with
  | nil => rfl
  | cons j l ih =>
    rw [List.map_cons, flatAll, ih]
    simp [tupI, flat, flatAll]
/-- a tuple of ints, new -/
theorem dvRow {H : Hp} {t : Addr} {l : List Int} (h : H t = some (.tup (l.map V.int))) : Dv H (.ref t) (tupI l) := .tup h (DvAll.ints l)
theorem set_glass {a : List Int} {i cn : Nat} {p l : Int} (hc : cn < a.length) : a.getD i 0 + (if decide ((i : Int) = (cn : Int)) then 1 else 0) * l * (1 * p) = (a.set cn (a.getD cn 0 + p * l)).getD i 0 := by
  by_cases ei : i = cn
  · subst ei
    have e1 : (a.set i (a.getD i 0 + p * l)).getD i 0 = a.getD i 0 + p * l := by rw [List.getD_eq_getElem?_getD, List.getElem?_set_self hc]; rfl
    rw [e1]
    simp [Int.mul_comm]
  · have e1 : (a.set cn (a.getD cn 0 + p * l)).getD i 0 = a.getD i 0 := by rw [List.getD_eq_getElem?_getD, List.getElem?_set_ne (Ne.symm ei), ← List.getD_eq_getElem?_getD]
    have e2 : decide ((i : Int) = (cn : Int)) = false := decide_eq_false (by omega)
    rw [e1, e2]
    simp
/-- the store has worked beside the shop -/
theorem Ws.grow {x : Ws} {K : PySem.W.Frag} {H H' : Hp} (h : x.at K H) (hk : x.k < 1000) {D' : Addr → Prop} {qs cs : List Pic} (kp : Keep x.A.foot H H') (hF : FacesAt (He.ga K "Faces") H' x.p x.A D' (x.ps ++ qs)) (hB : Base cs (x.ps ++ qs)) (hl : cs.length ≤ x.bs.length + 1) (d2 : ∀ b, D' b → x.D b ∨ H b = none) :
    ∃ y : Ws, y.at K H' ∧ Gone H x H' y ∧ y.ps = x.ps ++ qs ∧ y.now = x.now ∧ y.k = x.k + 1 := by
  have hbl := h.bl
  have hpl := h.pl
  exact ⟨⟨x.p, x.A, D', x.ps ++ qs, cs, x.s, x.B, x.now, x.past, x.ahead, x.k + 1⟩, ⟨hF, hB, shopKeep h.S h.F h.ap kp, apKeep h.S h.ap d2, fun st hst => (h.ok st hst).mono (Nat.le_succ _), by dsimp only; omega, by dsimp only; omega, by dsimp only; omega⟩,
    ⟨rfl, rfl, rfl, ⟨qs, rfl⟩, kp.mono fun _ z => .inl z, liveF hF kp, d2, fun _ z => .inl z⟩, rfl, rfl, rfl⟩
theorem cut_36 {ns : List Int} (h : ns.length ≤ 63) : ∃ ms : List Int, cutV (ns.map V.int) (some 2) (some 38) = ms.map V.int ∧ ms.length ≤ 36 := by
  have key : ∀ n : Nat, n < 64 → HT.sIx n n (some 38) - HT.sIx n 0 (some 2) ≤ 36 := by decide
  unfold cutV
  refine ⟨(ns.drop (HT.sIx (ns.map V.int).length 0 (some 2))).take (HT.sIx (ns.map V.int).length (ns.map V.int).length (some 38) - HT.sIx (ns.map V.int).length 0 (some 2)), by rw [List.map_take, List.map_drop], ?_⟩
  have := key (ns.map V.int).length (by rw [List.length_map]; omega)
  rw [List.length_take]
  omega
def RawS (C : Addr) (E : XK) (vs : List V) (H1 : Hp) (Q : VK) : Prop := ∀ x dx, H1 x = none → H1 dx = none → dx ≠ x → spInitS C (.ref x :: (vs ++ [])) (upd (upd H1 dx (.own x)) x (.ins C dx [])) (fun v H2 => v = .non ∧ Q (.ref x) H2) E
theorem z_mkS {C : Addr} {σ : L2.St} {H : Hp} {Q : VK} {E : XK} {t : TA} (h : t σ H fun vs H1 => RawS C E vs H1 Q) : tMake C (spInitS C) [] E t σ H Q := h
theorem RawS.of {C p : Addr} {H1 : Hp} {Q : VK} {E : XK} (k : ∀ H' s B, Same H1 H' → ShopAt C H' s p B noneYet [] [] → (∀ b ∈ B.muts s, H1 b = none) → Q (.ref s) H') : RawS C E [.ref p] H1 Q := by
  intro x dx hx hdx hne
  refine ⟨x, dx, p, rfl, upd_same, fun H' B h1 h2 h3 => ⟨rfl, k H' x B (fun b o e => h1 b o (by rw [upd_ne (ne_of_none e hx), upd_ne (ne_of_none e hdx)]; exact e) (ne_of_none e hx)) h2 fun b hb => ?_⟩⟩
  rcases h3 b hb with rfl | z
  · exact hx
  · by_cases e1 : b = x
    · rw [e1]; exact hx
    · rw [upd_ne e1] at z
      by_cases e2 : b = dx
      · rw [e2]; exact hdx
      · rw [upd_ne e2] at z; exact z
/-- a new shop over a new store -/
theorem Ws.new {K : PySem.W.Frag} {H H1 H2 : Hp} {p : Addr} {A : FA} {D : Addr → Prop} {s : Addr} {B : SB} (s1 : Same H H1) (hF : FacesAt (He.ga K "Faces") H1 p A D []) (hD : ∀ b, D b → H b = none) (s2 : Same H1 H2) (hS : ShopAt (He.ga K "Shop") H2 s p B noneYet [] []) (fr : ∀ b ∈ B.muts s, H1 b = none) :
    ∃ x : Ws, x.at K H2 ∧ x.p = p ∧ x.s = s ∧ x.now = noneYet ∧ x.ps = [] ∧ x.past = [] ∧ x.ahead = [] ∧ x.k = 0 ∧ ∀ b, x.foot b → H b = none := by
  have z10 : SumOk 0 (List.replicate 10 0) := ⟨by simp, fun x hx => by
    rw [List.mem_replicate] at hx
    rw [hx.2]
    exact ⟨Int.le_refl _, pow2 _⟩⟩
  have ok0 : StOk [] 0 noneYet := ⟨by simp [noneYet], by simp [noneYet], by simp [noneYet], by simp [noneYet], by simp [noneYet], by simp [noneYet], by simp [noneYet], z10, z10, z10, by simp [noneYet]⟩
  refine ⟨⟨p, A, D, [], [], s, B, noneYet, [], [], 0⟩, ⟨hF.same s2, by simp [Base], hS, fun a ha z => ?_, fun st hst => ?_, by simp, by simp, by simp⟩, rfl, rfl, rfl, rfl, rfl, rfl, rfl, fun b hb => ?_⟩
  · exact hF.nd (fr a ha) z
  · rcases hst with rfl | z | z
    · exact ok0
    · cases z
    · cases z
  · rcases hb with z | z
    · exact hD b (hF.df b z)
    · exact s1.free (fr b z)
theorem z_due_tell {K : PySem.W.Frag} {H1 H2 : Hp} {y z : Ws} {r r' : Addr} {dd : Deed} (d : DueR H1 y r dd) (hy : y.at K H1) (g : Gone H1 y H2 z) (hz : z.at K H2) (t : TellR H2 r' y z dd) :
    ∃ w v dv t2, H2 r = some (.tup [.str w, v, .ref t2]) ∧ H2 r' = some (.tup [.str w, v]) ∧ (∀ H, Dv H v dv) ∧ dpt dv = 0 ∧ Told H2 z t2 z.ps z.now := by
  rcases d with ⟨w, t0, hw, hr, told⟩ | ⟨hn, t0, hr, hp, told⟩
  · rcases t with ⟨w', hw', ez, hr'⟩ | ⟨hn', _⟩
    · rw [hw] at hw'
      obtain rfl := Option.some.inj hw'
      have tz := told.gone hy g
      rw [ez] at tz ⊢
      exact ⟨w, .non, .none, t0, hy.tup g.keep _ _ hr, hr', fun _ => .non, rfl, tz⟩
    · rw [hw] at hn'; cases hn'
  · rcases t with ⟨w', hw', ez, hr'⟩ | ⟨hn', en, hr'⟩
    · rw [hn] at hw'; cases hw'
    · have ok := hy.ok _ (.inl rfl)
      obtain ⟨qs, eq⟩ := g.ext
      have e1 : z.now = eff y.ps y.now dd := by rw [en, eq, eff_app ok hn hp]
      have oke : StOk y.ps (y.k + 1) (eff y.ps y.now dd) := by
        have z := eff_ok (qs := []) ok hn (by rw [List.append_nil]; exact hp)
        rw [List.append_nil] at z
        exact z
      have tz := told.gone hy g
      obtain ⟨lr, lg, lb, vr, vg, l, n⟩ := tz.ex
      have tz2 : Told H2 z t0 z.ps z.now := ⟨lr, lg, lb, vr, vg, by rw [e1, eq]; exact l.app oke, n⟩
      have hd : ∃ dv, (∀ H, Dv H (ansV y.now dd) dv) ∧ dpt dv = 0 := by
        cases dd <;> first
          | exact ⟨.none, fun _ => .non, rfl⟩
          | exact ⟨.int _, fun _ => .int _, rfl⟩
      obtain ⟨dv, h1, h2⟩ := hd
      exact ⟨"", _, dv, t0, hy.tup g.keep _ _ hr, hr', h1, h2, tz2⟩
theorem dpt_ints : ∀ l : List Int, dptAll (l.map PyData.int) = 0
  | [] => rfl
  | i :: l => by simp [dptAll, dpt, dpt_ints l]
theorem dpt_rows : ∀ rs : List Rod, dptAll (rowsD rs) ≤ 1
  | [] => Nat.zero_le _
  | r :: rs => by
    have := dpt_rows rs
    rw [rowsD_cons, dptAll]
    simp only [dpt, dptAll]
    omega
theorem dpt_glass (a0 a1 a2 ins : List Int) : dptAll (glassOf a0 a1 a2 ins) ≤ 1 := by
  unfold glassOf
  generalize List.range 10 = l
  induction l with
  | nil => exact Nat.zero_le _
  | cons j l ih =>
    rw [List.map_cons, dptAll]
    simp only [tupI, List.map_cons, List.map_nil, dpt, dptAll] at ih ⊢
    omega
theorem dpt_look (ps : List Pic) (st : SS) : dpt (lookD ps st) < 8 := by
  unfold lookD
  rw [glassD_of]
  have h1 := dpt_rows st.rods
  have h2 := dpt_glass st.a0 st.a1 st.a2 (insideTo ps st.rods)
  have h3 := dpt_ints st.bun
  simp only [dpt, dptAll]
  omega
theorem ints_at {l : List Int} {j : Int} (h0 : 0 ≤ j) (h1 : j < l.length) : ∃ v, atI (l.map V.int) j = some (.int v) := by
  obtain ⟨i, rfl⟩ : ∃ i : Nat, j = (i : Nat) := ⟨j.toNat, by omega⟩
  exact ⟨l.getD i 0, atI_of (n := i) (by rw [List.getElem?_map, List.getD_eq_getElem?_getD, List.getElem?_eq_getElem (by omega : i < l.length)]; rfl) rfl⟩
/-! ### glass through deeds -/
def held1 (ps : List Pic) (f t : Int) (j : Nat) : Int := (picF ps f).sums.getD j 0 * 4 ^ (t.toNat - (picF ps f).depth)
theorem held_get (ps : List Pic) (r : Rod) (j : Nat) : (heldL ps r).getD j 0 = held1 ps r.f r.t j * r.l := by
  unfold heldL held1
  simp only [List.getD_eq_getElem?_getD, List.getElem?_map]
  cases (picF ps r.f).sums[j]? <;> simp
theorem held1_pull {ps : List Pic} {f t : Int} {k : Nat} (j : Nat) (h : depthF ps f ≤ t - k) : held1 ps f (t - k) j * 4 ^ k = held1 ps f t j := by
  unfold held1
  unfold depthF at h
  have e : t.toNat - (picF ps f).depth = ((t - (k : Int)).toNat - (picF ps f).depth) + k := by
    unfold picF
    omega
  rw [e, Int.pow_add, Int.mul_assoc]
theorem held1_turn {ps : List Pic} {f g t u : Int} {P : Pic} (hP : IsF ps f P) (hQ : IsF ps g (P.turn u)) (h0 : 0 ≤ u) (h8 : u < 8) (j : Nat) : held1 ps g t j = held1 ps f t j := by
  unfold held1
  rw [picF_of hP, picF_of hQ, turn_depth h0 h8]
  have e : (P.turn u).sums = P.sums := by
    unfold Pic.sums
    apply List.map_congr_left
    intro k _
    exact turn_cnt h0 h8 P _
  rw [e]
section
variable {ps : List Pic} {rods : List Rod} {r r0 : Rod} {n : Int}
theorem inJ_cons (r : Rod) (rs : List Rod) (j : Nat) : inJ ps (r :: rs) j = (heldL ps r).getD j 0 + inJ ps rs j := by simp [inJ]
theorem inJ_app (a b : List Rod) (j : Nat) : inJ ps (a ++ b) j = inJ ps a j + inJ ps b j := by
  induction a with
  | nil => simp [inJ]
  | cons x a ih => rw [List.cons_append, inJ_cons, inJ_cons, ih, Int.add_assoc]
theorem setR_out (h : ∀ x ∈ rods, x.n ≠ r.n) : setR rods r = rods := by
  unfold setR
  calc rods.map (fun x => if x.n = r.n then r else x) = rods.map id := List.map_congr_left fun x hx => by rw [if_neg (h x hx)]; rfl
    _ = rods := List.map_id _
theorem dropR_out (h : ∀ x ∈ rods, x.n ≠ n) : dropR rods n = rods := by
  unfold dropR
  rw [List.filter_eq_self]
  intro x hx
  simpa using h x hx
theorem up_out {x : Rod} (h : ((x :: rods).map (·.n)).Pairwise (· < ·)) (e : x.n = n) : ∀ y ∈ rods, y.n ≠ n := by
  intro y hy z
  rw [List.map_cons, List.pairwise_cons] at h
  have := h.1 y.n (List.mem_map_of_mem hy)
  omega
theorem inJ_set (up : (rods.map (·.n)).Pairwise (· < ·)) (hf : findR rods r.n = some r0) (j : Nat) : inJ ps (setR rods r) j + (heldL ps r0).getD j 0 = inJ ps rods j + (heldL ps r).getD j 0 := by
  induction rods with
  | nil => cases hf
  | cons x rods ih =>
    by_cases c : x.n = r.n
    · have e0 : x = r0 := by simpa [findR, c] using hf
      have e1 : setR (x :: rods) r = r :: rods := by
        have := setR_out (r := r) (up_out up c)
        unfold setR at this ⊢
        rw [List.map_cons, if_pos c, this]
      rw [e1, inJ_cons, inJ_cons, e0]
      omega
    · have e0 : findR rods r.n = some r0 := by rw [← hf]; simp [findR, c]
      have e1 : setR (x :: rods) r = x :: setR rods r := by
        unfold setR
        rw [List.map_cons, if_neg c]
      rw [List.map_cons, List.pairwise_cons] at up
      have := ih up.2 e0
      rw [e1, inJ_cons, inJ_cons]
      omega
theorem inJ_drop (up : (rods.map (·.n)).Pairwise (· < ·)) (hf : findR rods n = some r0) (j : Nat) : inJ ps (dropR rods n) j + (heldL ps r0).getD j 0 = inJ ps rods j := by
  induction rods with
  | nil => cases hf
  | cons x rods ih =>
    by_cases c : x.n = n
    · have e0 : x = r0 := by simpa [findR, c] using hf
      have e1 : dropR (x :: rods) n = rods := by
        have := dropR_out (n := n) (up_out up c)
        unfold dropR at this ⊢
        rw [List.filter_cons_of_neg (by simpa using c), this]
      rw [e1, inJ_cons, e0]
      omega
    · have e0 : findR rods n = some r0 := by rw [← hf]; simp [findR, c]
      have e1 : dropR (x :: rods) n = x :: dropR rods n := by
        unfold dropR
        rw [List.filter_cons_of_pos (by simpa using c)]
      rw [List.map_cons, List.pairwise_cons] at up
      have := ih up.2 e0
      rw [e1, inJ_cons, inJ_cons]
      omega
end
theorem addK {a b c : Int} (h : a + c = b + c) : a = b := by omega
theorem row_stay {H H' : Hp} (kt : ∀ a xs, H a = some (.tup xs) → H' a = some (.tup xs)) {vr : List V} {rs : List Rod} (h : DvAll H vr (rowsD rs)) : DvAll H' vr (rowsD rs) := dvAll_stay kt (rows_flat _) h
theorem rows_snoc {H : Hp} {vr : List V} {rs : List Rod} {r : Rod} {t : Addr} (h : DvAll H vr (rowsD rs)) (ht : H t = some (.tup [.int r.n, .int r.f, .int r.t, .int r.l])) : DvAll H (vr ++ [.ref t]) (rowsD (rs ++ [r])) := by
  unfold rowsD
  rw [List.map_append]
  exact DvAll.snoc (dvRow (l := [r.n, r.f, r.t, r.l]) ht) h
theorem setR_take {rods : List Rod} {r x : Rod} {i : Nat} (h : rods[i]? = some x) : setR (rods.take (i + 1)) r = setR (rods.take i) r ++ [if x.n = r.n then r else x] := by
  rw [List.take_add_one, h]
  simp [setR]
theorem vals_one (dd : Deed) : ∃ i : Int, atI dd.vals 1 = some (.int i) := by
  cases dd <;> exact ⟨_, atI_of (n := 1) rfl rfl⟩
theorem name_fuse {dd : Deed} (h : dd.name = "fuse") : ∃ a b, dd = .fuse a b := by
  cases dd with
  | fuse a b => exact ⟨a, b, rfl⟩
  | _ => exact absurd h (by simp only [Deed.name]; decide)
theorem name_gather {dd : Deed} (h : dd.name = "gather") : ∃ a b c, dd = .gather a b c := by
  cases dd with
  | gather a b c => exact ⟨a, b, c, rfl⟩
  | _ => exact absurd h (by simp only [Deed.name]; decide)
theorem name_bundle {dd : Deed} (h : dd.name = "bundle") : ∃ a b c d, dd = .bundle a b c d := by
  cases dd with
  | bundle a b c d => exact ⟨a, b, c, d, rfl⟩
  | _ => exact absurd h (by simp only [Deed.name]; decide)
theorem name_sell {dd : Deed} (h : dd.name = "sell") : ∃ a, dd = .sell a := by
  cases dd with
  | sell a => exact ⟨a, rfl⟩
  | _ => exact absurd h (by simp only [Deed.name]; decide)
theorem vals_two {dd : Deed} {p : Prop} [Decidable p] (h : dd.name = (if p then ("gather" : Str) else ("fuse" : Str))) : ∃ i j : Int, atI dd.vals 1 = some (.int i) ∧ atI dd.vals 2 = some (.int j) := by
  by_cases hp : p
  · rw [if_pos hp] at h
    obtain ⟨a, b, c, rfl⟩ := name_gather h
    exact ⟨a, b, atI_of (n := 1) rfl rfl, atI_of (n := 2) rfl rfl⟩
  · rw [if_neg hp] at h
    obtain ⟨a, b, rfl⟩ := name_fuse h
    exact ⟨a, b, atI_of (n := 1) rfl rfl, atI_of (n := 2) rfl rfl⟩
theorem eqv_two (a b c d : Int) : PyData.eqv (.tuple [.int a, .int b]) (.tuple [.int c, .int d]) = decide (a = c ∧ b = d) := by
  simp [PyData.eqv, PyData.eqvAll]
  by_cases h1 : a = c <;> by_cases h2 : b = d <;> simp [h1, h2]
theorem inV_ints (i : Int) (ns : List Int) : inV (.int i) (ns.map V.int) = decide (i ∈ ns) := by
  unfold inV
  induction ns with
  | nil => rfl
  | cons n ns ih =>
    rw [List.map_cons, List.any_cons, ih]
    by_cases h : n = i
    · subst h; simp [eqV]
    · have h' : ¬ i = n := fun z => h z.symm
      simp [eqV, h, h']
theorem flat_vals (ns : List Int) : (ns.map V.int).all flatV = true := by
  induction ns with
  | nil => rfl
  | cons n ns ih => rw [List.map_cons, List.all_cons, ih]; rfl
/-! the refusals of each deed -/
section
variable {ps : List Pic} {st : SS} {w : Str}
theorem ref_two {p : Prop} [Decidable p] {x c : Str} {o : Option Str} (e : (if p then some x else o) = some c) : c = x ∨ o = some c := by
  by_cases hp : p
  · rw [if_pos hp] at e; exact .inl (Option.some.inj e).symm
  · rw [if_neg hp] at e; exact .inr e
theorem ref_gather {c t l : Int} (h : refuse ps st (.gather c t l) = some w) : w = "BadColour" ∨ w = "BadThickness" ∨ w = "BadLength" := by
  unfold refuse at h; simp only at h
  rcases ref_two h with h | h
  · exact .inl h
  rcases ref_two h with h | h
  · exact .inr (.inl h)
  rcases ref_two h with h | h
  · exact .inr (.inr h)
  cases h
theorem ref_pull {n k : Int} (h : refuse ps st (.pull n k) = some w) : w = "NoRod" ∨ w = "BadSteps" ∨ w = "TooThin" := by
  unfold refuse at h; simp only at h
  cases e : findR st.rods n with
  | none => rw [e] at h; exact .inl (Option.some.inj h).symm
  | some r =>
    rw [e] at h; simp only at h
    rcases ref_two h with h | h
    · exact .inr (.inl h)
    rcases ref_two h with h | h
    · exact .inr (.inr h)
    cases h
theorem ref_turn {n k : Int} (h : refuse ps st (.turn n k) = some w) : w = "NoRod" ∨ w = "BadTurn" := by
  unfold refuse at h; simp only at h
  cases e : findR st.rods n with
  | none => rw [e] at h; exact .inl (Option.some.inj h).symm
  | some r =>
    rw [e] at h; simp only at h
    rcases ref_two h with h | h
    · exact .inr h
    cases h
theorem ref_cut {n k : Int} (h : refuse ps st (.cut n k) = some w) : w = "NoRod" ∨ w = "BadLength" := by
  unfold refuse at h; simp only at h
  cases e : findR st.rods n with
  | none => rw [e] at h; exact .inl (Option.some.inj h).symm
  | some r =>
    rw [e] at h; simp only at h
    rcases ref_two h with h | h
    · exact .inr h
    cases h
theorem ref_fuse {a b : Int} (h : refuse ps st (.fuse a b) = some w) : w = "NoRod" ∨ w = "Twice" ∨ w = "Unlike" := by
  unfold refuse at h; simp only at h
  cases e : findR st.rods a with
  | none => rw [e] at h; exact .inl (Option.some.inj h).symm
  | some r =>
    cases e2 : findR st.rods b with
    | none => rw [e, e2] at h; exact .inl (Option.some.inj h).symm
    | some r2 =>
      rw [e, e2] at h; simp only at h
      rcases ref_two h with h | h
      · exact .inr (.inl h)
      rcases ref_two h with h | h
      · exact .inr (.inr h)
      cases h
theorem ref_sell {n : Int} (h : refuse ps st (.sell n) = some w) : w = "NoRod" := by
  unfold refuse at h; simp only at h
  cases e : findR st.rods n with
  | none => rw [e] at h; exact (Option.some.inj h).symm
  | some r => rw [e] at h; cases h
theorem ref_waste {n : Int} (h : refuse ps st (.waste n) = some w) : w = "NoRod" := by
  unfold refuse at h; simp only at h
  cases e : findR st.rods n with
  | none => rw [e] at h; exact (Option.some.inj h).symm
  | some r => rw [e] at h; cases h
theorem ref_bundle {a b c d : Int} (h : refuse ps st (.bundle a b c d) = some w) : w = "NoRod" ∨ w = "Twice" ∨ w = "Unlike" ∨ w = "TooThick" := by
  by_cases hn : findR st.rods a = none ∨ findR st.rods b = none ∨ findR st.rods c = none ∨ findR st.rods d = none
  · rw [refuse_none hn] at h; exact .inl (Option.some.inj h).symm
  · simp only [not_or] at hn
    obtain ⟨h1, h2, h3, h4⟩ := hn
    obtain ⟨r1, e1⟩ := Option.ne_none_iff_exists'.mp h1
    obtain ⟨r2, e2⟩ := Option.ne_none_iff_exists'.mp h2
    obtain ⟨r3, e3⟩ := Option.ne_none_iff_exists'.mp h3
    obtain ⟨r4, e4⟩ := Option.ne_none_iff_exists'.mp h4
    unfold refuse at h; simp only at h
    rw [e1, e2, e3, e4] at h; simp only at h
    rcases ref_two h with h | h
    · exact .inr (.inl h)
    rcases ref_two h with h | h
    · exact .inr (.inr (.inl h))
    rcases ref_two h with h | h
    · exact .inr (.inr (.inr h))
    cases h
end
end Mur
/-! Taken back, done again; no glass is lost. -/
namespace Mur
open PySem hiding start
open PySem.Spec L2
open PyProof.Rows hiding St
/-! ### o.f = .. as a part of several targets -/
def gFld (K : PySem.W.Frag) (ta : TE) (f : Str) : TG := fun v σ H Q => ta σ H fun x H2 => ∃ a C dx fs, x = .ref a ∧ H2 a = some (.ins C dx fs) ∧ Cls K C ∧ NoAttr K C f ∧ fs.length < 1000 ∧ Q σ (upd H2 a (.ins C dx (putF f v fs)))
theorem k_pgfld {X : Cx} {o : Expr} {f : Str} {pos : Pos} {ta : TE} (K : PySem.W.Frag) (ho : PE X o ta) (hK : X.K = K := by rfl) : PG X (.Attribute o f pos) (gFld K ta f) := by
  subst hK
  refine ⟨fun pins s σ H v u Q I r h => ?_⟩
  refine PySem.W.kas_attr (thn (ho.run pins s σ H _ I h) fun ov s2 ⟨x, H2, I2, rx, a, C, dx, fs, ex, ea, c, n, l, q2⟩ => ?_)
  subst ex
  obtain rfl : ov = Value.ref a := rx
  exact setattr_ok I2 ea c n l r fun s3 I3 => ⟨σ, _, I3, q2⟩
theorem z_gFld {K : PySem.W.Frag} {ta : TE} {f : Str} {v : V} {σ : L2.St} {H : Hp} {Q : L2.St → Hp → Prop} (h : ta σ H fun x H2 => ∃ a C dx fs, x = .ref a ∧ H2 a = some (.ins C dx fs) ∧ Cls K C ∧ NoAttr K C f ∧ fs.length < 1000 ∧ Q σ (upd H2 a (.ins C dx (putF f v fs)))) : gFld K ta f v σ H Q := h
/-! ### a list == [] -/
def rEqNil (K : PySem.W.Frag) : R2 := fun x y H Q => ∃ a b xs, x = .ref a ∧ y = .ref b ∧ SqL K H a xs ∧ SqL K H b [] ∧ Q (.bl (decide (xs.length = 0))) H
theorem k_eqNil {X : Cx} (K : PySem.W.Frag) (hu : X.A.units + 1 < cLine) (hK : X.K = K := by rfl) : OpR X (compareOp .Eq) (rEqNil K) := by
  subst hK
  intro pins s σ H x y v u Q I rx ry h
  obtain ⟨a, b, xs, rfl, rfl, ha, hb, q⟩ := h
  cases (show v = Value.ref a from rx)
  cases (show u = Value.ref b from ry)
  obtain ⟨us, r1, p1, _⟩ := I.list ha
  obtain ⟨ws, r2, p2, _⟩ := I.list hb
  have hw : ws.toArray.size = 0 := by rw [List.size_toArray, ← r2.length]; rfl
  have hx : us.toArray.size = xs.length := by rw [List.size_toArray, ← r1.length]
  by_cases e : xs.length = 0
  · rw [decide_eq_true e] at q
    refine SeqAt.eq_listAt (e := fun _ => true) p1.isList p2.isList (by rw [hw, hx, e]) (by omega) (fun j h1 h2 => absurd h2 (by rw [hw]; omega)) ⟨.bl true, H, I, ?_, q⟩
    rw [hx, e]
    rfl
  · rw [decide_eq_false e] at q
    exact SeqAt.eq_list_lengthsAt p1.isList p2.isList (by rw [hw, hx]; simpa using e) (by omega) ⟨.bl false, H, I, rfl, q⟩
/-! ### stands behind and ahead -/
theorem KeptIn.unsnoc {H : Hp} : ∀ {sts : List SS} {st : SS} {vs : List V} {qs : List SP}, KeptIn H vs qs (sts ++ [st]) → ∃ vs0 qs0 t q, vs = vs0 ++ [.ref t] ∧ qs = qs0 ++ [q] ∧ KeptIn H vs0 qs0 sts ∧ H t = some (.tup (keptV q st)) ∧ SnapAt H q st
  | [], st, vs, qs, h => by
    cases h with
    | @cons t q _ _ _ _ e s h => cases h; exact ⟨[], [], t, q, rfl, rfl, .nil, e, s⟩
  | x :: sts, st, vs, qs, h => by
    cases h with
    | @cons t q _ vs1 qs1 _ e s h =>
      obtain ⟨vs0, qs0, t', q', e1, e2, h3, e3, s3⟩ := KeptIn.unsnoc (sts := sts) h
      exact ⟨.ref t :: vs0, q :: qs0, t', q', by rw [e1]; rfl, by rw [e2]; rfl, .cons e s h3, e3, s3⟩
section
variable {C : Addr} {H : Hp} {s p : Addr} {B : SB} {now st : SS} {pst ahead : List SS}
theorem ShopAt.back (h : ShopAt C H s p B now (pst ++ [st]) ahead) {t : Addr} {q : SP} (ht : H t = some (.tup (keptV q now))) (hs : SnapAt H q now) (nq : q.muts.Nodup) (ap : ∀ a ∈ q.muts, a ∉ B.muts s) :
    ∃ vs0 qs0 tl ql, B.vs = vs0 ++ [.ref tl] ∧ H tl = some (.tup (keptV ql st)) ∧ ∀ H', (∀ a xs, H a = some (.tup xs) → H' a = some (.tup xs)) → (∀ a, a ≠ s → a ≠ B.la → a ≠ B.lb → ∀ o, H a = some o → H' a = some o) →
      H' B.la = some (.lst (B.ws ++ [.ref t])) → H' B.lb = some (.lst vs0) → H' s = some (.ins C B.dx (fsShop (.ref p) (.ref ql.d) (.int st.com) (.ref ql.am) (.ref ql.b) (.ref ql.dd) (.ref B.lb) (.ref B.la))) →
      ShopAt C H' s p { B with q := ql, qs := qs0, vs := vs0, rs := B.rs ++ [q], ws := B.ws ++ [.ref t] } st pst (ahead ++ [now]) ∧ ∀ b ∈ SB.muts s { B with q := ql, qs := qs0, vs := vs0, rs := B.rs ++ [q], ws := B.ws ++ [.ref t] }, b ∈ B.muts s ∨ b ∈ q.muts := by
  obtain ⟨vs0, qs0, tl, ql, e1, e2, k0, et, sl⟩ := h.kb.unsnoc
  refine ⟨vs0, qs0, tl, ql, e1, et, fun H' k m ha hb ho => ?_⟩
  have A := h.apt
  have fm : B.qs.flatMap SP.muts = qs0.flatMap SP.muts ++ ql.muts := by rw [e2]; simp
  have fr : (B.rs ++ [q]).flatMap SP.muts = B.rs.flatMap SP.muts ++ q.muts := by simp
  have out : ∀ a ∈ q.muts, a ≠ s ∧ a ≠ B.lb ∧ a ≠ B.la ∧ a ∉ B.q.muts ∧ a ∉ B.qs.flatMap SP.muts ∧ a ∉ B.rs.flatMap SP.muts := fun a ha => by
    have := ap a ha
    simpa only [SB.muts, List.mem_cons, List.mem_append, not_or] using this
  obtain ⟨s1, s2, s3, s4, s5, b1, b3, b4, b5, a3, a4, a5, q0, q4, q5, r0, r1, r5⟩ := A
  rw [fm] at s4 b4 a4 r0 r5 out
  simp only [List.mem_append, not_or] at s4 b4 a4 out
  rw [List.nodup_append] at r0
  obtain ⟨r01, r02, r03⟩ := r0
  have lsnap : ∀ {x : SP} {z : SS}, SnapAt H x z → s ∉ x.muts → B.la ∉ x.muts → B.lb ∉ x.muts → SnapAt H' x z := fun hh n1 n2 n3 => hh.stay k fun a ha o e => m a (fun z => n1 (z ▸ ha)) (fun z => n2 (z ▸ ha)) (fun z => n3 (z ▸ ha)) o e
  have lkept : ∀ {vs : List V} {qs : List SP} {sts : List SS}, KeptIn H vs qs sts → s ∉ qs.flatMap SP.muts → B.la ∉ qs.flatMap SP.muts → B.lb ∉ qs.flatMap SP.muts → KeptIn H' vs qs sts := fun hh n1 n2 n3 => hh.stay k fun a ha o e => m a (fun z => n1 (z ▸ ha)) (fun z => n2 (z ▸ ha)) (fun z => n3 (z ▸ ha)) o e
  have ns : s ∉ q.muts := fun z => (out s z).1 rfl
  have nlb : B.lb ∉ q.muts := fun z => (out _ z).2.1 rfl
  have nla : B.la ∉ q.muts := fun z => (out _ z).2.2.1 rfl
  refine ⟨⟨ho, lsnap sl s4.2 a4.2 b4.2, hb, lkept k0 s4.1 a4.1 b4.1, ha, (lkept h.ka s5 a5 b5).snoc (k _ _ ht) (lsnap hs ns nla nlb), apt_iff.mpr ?_⟩, ?_⟩
  · refine ⟨s1, s2, s4.2, s4.1, ?_, b1, b4.2, b4.1, ?_, a4.2, a4.1, ?_, r02, fun a ha hb => r03 a hb a ha rfl, fun a ha => ?_, r01, ?_, fun a ha => ?_⟩
    · rw [fr, List.mem_append]; exact not_or.mpr ⟨s5, ns⟩
    · rw [fr, List.mem_append]; exact not_or.mpr ⟨b5, nlb⟩
    · rw [fr, List.mem_append]; exact not_or.mpr ⟨a5, nla⟩
    · rw [fr, List.mem_append]; exact not_or.mpr ⟨r5 a (List.mem_append_right _ ha), fun z => (out a z).2.2.2.2.1.2 ha⟩
    · rw [fr, List.nodup_append]; exact ⟨r1, nq, fun a ha b hb e => (out b hb).2.2.2.2.2 (e ▸ ha)⟩
    · rw [fr, List.mem_append]; exact not_or.mpr ⟨r5 a (List.mem_append_left _ ha), fun z => (out a z).2.2.2.2.1.1 ha⟩
  · intro b hb
    simp only [SB.muts, List.mem_cons, List.mem_append, fr] at hb ⊢
    rw [fm, List.mem_append]
    rcases hb with z | z | z | z | z | z | z
    · exact .inl (.inl z)
    · exact .inl (.inr (.inl z))
    · exact .inl (.inr (.inr (.inl z)))
    · exact .inl (.inr (.inr (.inr (.inr (.inl (.inr z))))))
    · exact .inl (.inr (.inr (.inr (.inr (.inl (.inl z))))))
    · exact .inl (.inr (.inr (.inr (.inr (.inr z)))))
    · exact .inr z
theorem ShopAt.forth {past apst : List SS} (h : ShopAt C H s p B now past (apst ++ [st])) {t : Addr} {q : SP} (ht : H t = some (.tup (keptV q now))) (hs : SnapAt H q now) (nq : q.muts.Nodup) (ap : ∀ a ∈ q.muts, a ∉ B.muts s) :
    ∃ ws0 rs0 tl ql, B.ws = ws0 ++ [.ref tl] ∧ H tl = some (.tup (keptV ql st)) ∧ ∀ H', (∀ a xs, H a = some (.tup xs) → H' a = some (.tup xs)) → (∀ a, a ≠ s → a ≠ B.la → a ≠ B.lb → ∀ o, H a = some o → H' a = some o) →
      H' B.lb = some (.lst (B.vs ++ [.ref t])) → H' B.la = some (.lst ws0) → H' s = some (.ins C B.dx (fsShop (.ref p) (.ref ql.d) (.int st.com) (.ref ql.am) (.ref ql.b) (.ref ql.dd) (.ref B.lb) (.ref B.la))) →
      ShopAt C H' s p { B with q := ql, qs := B.qs ++ [q], vs := B.vs ++ [.ref t], rs := rs0, ws := ws0 } st (past ++ [now]) apst ∧ ∀ b ∈ SB.muts s { B with q := ql, qs := B.qs ++ [q], vs := B.vs ++ [.ref t], rs := rs0, ws := ws0 }, b ∈ B.muts s ∨ b ∈ q.muts := by
  obtain ⟨ws0, rs0, tl, ql, e1, e2, k0, et, sl⟩ := h.ka.unsnoc
  refine ⟨ws0, rs0, tl, ql, e1, et, fun H' k m hb ha ho => ?_⟩
  have A := h.apt
  have fm : B.rs.flatMap SP.muts = rs0.flatMap SP.muts ++ ql.muts := by rw [e2]; simp
  have fr : (B.qs ++ [q]).flatMap SP.muts = B.qs.flatMap SP.muts ++ q.muts := by simp
  have out : ∀ a ∈ q.muts, a ≠ s ∧ a ≠ B.lb ∧ a ≠ B.la ∧ a ∉ B.q.muts ∧ a ∉ B.qs.flatMap SP.muts ∧ a ∉ B.rs.flatMap SP.muts := fun a ha => by
    have := ap a ha
    simpa only [SB.muts, List.mem_cons, List.mem_append, not_or] using this
  obtain ⟨s1, s2, s3, s4, s5, b1, b3, b4, b5, a3, a4, a5, q0, q4, q5, r0, r1, r5⟩ := A
  rw [fm] at s5 b5 a5 r1 out
  have r5' : ∀ a ∈ B.qs.flatMap SP.muts, a ∉ rs0.flatMap SP.muts ∧ a ∉ ql.muts := fun a ha => by
    have := r5 a ha
    rw [fm, List.mem_append, not_or] at this
    exact this
  simp only [List.mem_append, not_or] at s5 b5 a5 out
  rw [List.nodup_append] at r1
  obtain ⟨r01, r02, r03⟩ := r1
  have lsnap : ∀ {x : SP} {z : SS}, SnapAt H x z → s ∉ x.muts → B.la ∉ x.muts → B.lb ∉ x.muts → SnapAt H' x z := fun hh n1 n2 n3 => hh.stay k fun a ha o e => m a (fun z => n1 (z ▸ ha)) (fun z => n2 (z ▸ ha)) (fun z => n3 (z ▸ ha)) o e
  have lkept : ∀ {vs : List V} {qs : List SP} {sts : List SS}, KeptIn H vs qs sts → s ∉ qs.flatMap SP.muts → B.la ∉ qs.flatMap SP.muts → B.lb ∉ qs.flatMap SP.muts → KeptIn H' vs qs sts := fun hh n1 n2 n3 => hh.stay k fun a ha o e => m a (fun z => n1 (z ▸ ha)) (fun z => n2 (z ▸ ha)) (fun z => n3 (z ▸ ha)) o e
  have ns : s ∉ q.muts := fun z => (out s z).1 rfl
  have nlb : B.lb ∉ q.muts := fun z => (out _ z).2.1 rfl
  have nla : B.la ∉ q.muts := fun z => (out _ z).2.2.1 rfl
  refine ⟨⟨ho, lsnap sl s5.2 a5.2 b5.2, hb, (lkept h.kb s4 a4 b4).snoc (k _ _ ht) (lsnap hs ns nla nlb), ha, lkept k0 s5.1 a5.1 b5.1, apt_iff.mpr ?_⟩, ?_⟩
  · refine ⟨s1, s2, s5.2, ?_, s5.1, b1, b5.2, ?_, b5.1, a5.2, ?_, a5.1, r02, fun a ha => ?_, fun a ha hb => r03 a hb a ha rfl, ?_, r01, fun a ha => ?_⟩
    · rw [fr, List.mem_append]; exact not_or.mpr ⟨s4, ns⟩
    · rw [fr, List.mem_append]; exact not_or.mpr ⟨b4, nlb⟩
    · rw [fr, List.mem_append]; exact not_or.mpr ⟨a4, nla⟩
    · rw [fr, List.mem_append]; exact not_or.mpr ⟨fun z => (r5' a z).2 ha, fun z => (out a z).2.2.2.2.2.2 ha⟩
    · rw [fr, List.nodup_append]; exact ⟨r0, nq, fun a ha b hb e => (out b hb).2.2.2.2.1 (e ▸ ha)⟩
    · rw [fr, List.mem_append] at ha
      exact ha.elim (fun z => (r5' a z).1) fun z => (out a z).2.2.2.2.2.1
  · intro b hb
    simp only [SB.muts, List.mem_cons, List.mem_append, fr] at hb ⊢
    rw [fm, List.mem_append]
    rcases hb with z | z | z | z | (z | z) | z
    · exact .inl (.inl z)
    · exact .inl (.inr (.inl z))
    · exact .inl (.inr (.inr (.inl z)))
    · exact .inl (.inr (.inr (.inr (.inr (.inr (.inr z))))))
    · exact .inl (.inr (.inr (.inr (.inr (.inl z)))))
    · exact .inr z
    · exact .inl (.inr (.inr (.inr (.inr (.inr (.inl z))))))
end
def spBecome (C : Addr) : Sp := fun vs H Q _ => ∃ s t dx, ∃ p d c am b dd lb la d' c' am' b' dd' : V, vs = [.ref s, .ref t] ∧ H s = some (.ins C dx (fsShop p d c am b dd lb la)) ∧ H t = some (.tup [d', c', am', b', dd']) ∧
  ∀ H', H' s = some (.ins C dx (fsShop p d' c' am' b' dd' lb la)) → (∀ a, a ≠ s → H' a = H a) → Q .non H'
def spUndo (K : PySem.W.Frag) : Sp := fun vs H Q E => ∃ x : Ws, vs = [.ref x.s] ∧ x.at K H ∧ x.ahead.length < 10000 ∧ (x.past = [] → ∀ H', Same H H' → E (.ref (He.ga K "NothingLeft")) none H') ∧
  (∀ pst st, x.past = pst ++ [st] → ∀ H' y, y.at K H' → Gone H x H' y → y.now = st → y.past = pst → y.ahead = x.ahead ++ [x.now] → y.ps = x.ps → y.k = x.k → Q .non H')
def spRedo (K : PySem.W.Frag) : Sp := fun vs H Q E => ∃ x : Ws, vs = [.ref x.s] ∧ x.at K H ∧ x.past.length + x.ahead.length ≤ x.k ∧ (x.ahead = [] → ∀ H', Same H H' → E (.ref (He.ga K "NothingLeft")) none H') ∧
  (∀ apst st, x.ahead = apst ++ [st] → ∀ H' y, y.at K H' → Gone H x H' y → y.now = st → y.past = x.past ++ [x.now] → y.ahead = apst → y.ps = x.ps → y.k = x.k → Q .non H')
def spDeeds (K : PySem.W.Frag) : Sp := fun vs H Q E => ∃ x : Ws, vs = [.ref x.s] ∧ x.at K H ∧ ∀ H' l vs, Same H H' → H l = none → H' l = some (.lst vs) → DvAll H' vs (x.now.deeds.map Deed.data) → Q (.ref l) H'
/-! ### a list != [] -/
def rNeNil (K : PySem.W.Frag) : R2 := fun x y H Q => ∃ a b xs, x = .ref a ∧ y = .ref b ∧ SqL K H a xs ∧ SqL K H b [] ∧ Q (.bl (!decide (xs.length = 0))) H
theorem k_neNil {X : Cx} (K : PySem.W.Frag) (hu : X.A.units + 1 < cLine) (hK : X.K = K := by rfl) : OpR X (compareOp .NotEq) (rNeNil K) := by
  subst hK
  intro pins s σ H x y v u Q I rx ry h
  obtain ⟨a, b, xs, rfl, rfl, ha, hb, q⟩ := h
  cases (show v = Value.ref a from rx)
  cases (show u = Value.ref b from ry)
  obtain ⟨us, r1, p1, _⟩ := I.list ha
  obtain ⟨ws, r2, p2, _⟩ := I.list hb
  have hw : ws.toArray.size = 0 := by rw [List.size_toArray, ← r2.length]; rfl
  have hx : us.toArray.size = xs.length := by rw [List.size_toArray, ← r1.length]
  by_cases e : xs.length = 0
  · rw [decide_eq_true e] at q
    refine SeqAt.RcNeAt.lists (e := fun _ => true) p1.isList p2.isList (by rw [hw, hx, e]) (by omega) (fun j h1 h2 => absurd h2 (by rw [hw]; omega)) X.prog X.w X.xe _ ⟨.bl false, H, I, ?_, q⟩
    rw [hx, e]
    rfl
  · rw [decide_eq_false e] at q
    exact SeqAt.RcNeAt.lists_lengths p1.isList p2.isList (by rw [hw, hx]; simpa using e) (by omega) X.prog X.w X.xe _ ⟨.bl true, H, I, rfl, q⟩
/-- none of the shop's things -/
def Off (y : Ws) (b : Addr) : Prop := ¬ y.D b ∧ b ∉ y.B.muts y.s
theorem Off.gone {x y : Ws} {H H' : Hp} {b : Addr} {o : HO} (h : Off x b) (e : H b = some o) (g : Gone H x H' y) : Off y b :=
  ⟨fun z => (g.D b z).elim h.1 fun w => (by rw [e] at w; cases w), fun z => (g.m b z).elim h.2 fun w => (by rw [e] at w; cases w)⟩
theorem Off.foot {x : Ws} {K : PySem.W.Frag} {H : Hp} {b : Addr} (h : Off x b) (a : x.at K H) : ¬ x.foot b := fun z => z.elim (fun w => h.1 (a.F.df b w)) h.2
theorem Off.new {x : Ws} {K : PySem.W.Frag} {H : Hp} {b : Addr} (a : x.at K H) (e : H b = none) : Off x b := ⟨a.F.nd e, fun z => by
  obtain ⟨o, q, _⟩ := a.S.there b z
  rw [e] at q; cases q⟩
theorem Ws.at.put {x : Ws} {K : PySem.W.Frag} {H : Hp} {b : Addr} {o u : HO} (a : x.at K H) (h : Off x b) (e : H b = some u) (n : NoTup u) : x.at K (upd H b o) :=
  ⟨a.F.keep fun c v hc q => (upd_ne (fun z => h.1 (by rw [← z]; exact hc))).trans q, a.base, a.S.stay (tup_stay e n) fun c hc v q => (upd_ne (fun z => h.2 (by rw [← z]; exact hc))).trans q, a.ap, a.ok, a.bl, a.kl, a.pl⟩
/-! ### pairs of a told stand and its deeds -/
def PairAt (H : Hp) (y : Ws) (Lp La : Addr) (v : V) (st : SS) : Prop := ∃ t tl ld vs lr lg lb vr vg, v = .ref t ∧ H t = some (.tup [.ref tl, .ref ld]) ∧ LookAt H tl lr lg lb vr vg y.ps st ∧ H ld = some (.lst vs) ∧ DvAll H vs (st.deeds.map Deed.data) ∧
  ∀ b, (b = lr ∨ b = lg ∨ b = lb ∨ b = ld) → ¬ y.foot b ∧ b ≠ Lp ∧ b ≠ La
section
variable {H H' : Hp} {x y : Ws} {Lp La : Addr} {v : V} {st : SS}
theorem PairAt.gone {K : PySem.W.Frag} {k : Nat} (h : PairAt H x Lp La v st) (ok : StOk x.ps k st) (a : x.at K H) (g : Gone H x H' y) : PairAt H' y Lp La v st := by
  obtain ⟨t, tl, ld, vs, lr, lg, lb, vr, vg, rfl, ft, l, fl, dl, nf⟩ := h
  obtain ⟨qs, eq⟩ := g.ext
  have kt := a.tup g.keep
  have kp : ∀ b, (b = lr ∨ b = lg ∨ b = lb ∨ b = ld) → ∀ o, H b = some o → H' b = some o := fun b hb o e => g.keep _ _ e (nf b hb).1
  have l2 := l.keep kt (kp lr (.inl rfl)) (kp lg (.inr (.inl rfl))) (kp lb (.inr (.inr (.inl rfl))))
  refine ⟨t, tl, ld, vs, lr, lg, lb, vr, vg, rfl, kt _ _ ft, by rw [eq]; exact l2.app ok, kp ld (.inr (.inr (.inr rfl))) _ fl, dvAll_stay kt (deeds_flat _) dl, fun b hb => ⟨?_, (nf b hb).2⟩⟩
  have : ∃ o, H b = some o := by
    rcases hb with rfl | rfl | rfl | rfl
    · exact ⟨_, l.r⟩
    · exact ⟨_, l.g⟩
    · exact ⟨_, l.b⟩
    · exact ⟨_, fl⟩
  obtain ⟨o, e⟩ := this
  exact g.nf e (nf b hb).1
theorem PairAt.same (h : PairAt H x Lp La v st) (s : Same H H') : PairAt H' x Lp La v st := by
  obtain ⟨t, tl, ld, vs, lr, lg, lb, vr, vg, e, ft, l, fl, dl, nf⟩ := h
  exact ⟨t, tl, ld, vs, lr, lg, lb, vr, vg, e, s _ _ ft, l.same s, s _ _ fl, dvAll_same s dl, nf⟩
theorem PairAt.put {c : Addr} {o u : HO} (h : PairAt H x Lp La v st) (e : H c = some u) (n : NoTup u) (hc : c = Lp ∨ c = La) : PairAt (upd H c o) x Lp La v st := by
  obtain ⟨t, tl, ld, vs, lr, lg, lb, vr, vg, ev, ft, l, fl, dl, nf⟩ := h
  have kt := tup_stay (o := o) e n
  have kp : ∀ b, (b = lr ∨ b = lg ∨ b = lb ∨ b = ld) → ∀ w, H b = some w → upd H c o b = some w := fun b hb w q => by
    have := (nf b hb).2
    rw [upd_ne (fun z => hc.elim (fun y => this.1 (z.trans y)) fun y => this.2 (z.trans y))]
    exact q
  exact ⟨t, tl, ld, vs, lr, lg, lb, vr, vg, ev, kt _ _ ft, l.keep kt (kp lr (.inl rfl)) (kp lg (.inr (.inl rfl))) (kp lb (.inr (.inr (.inl rfl)))), kp ld (.inr (.inr (.inr rfl))) _ fl, dvAll_stay kt (deeds_flat _) dl, nf⟩
/-- a new list in the place of the second -/
theorem PairAt.newLa {L : Addr} (h : PairAt H x Lp La v st) (n : H L = none) : PairAt H x Lp L v st := by
  obtain ⟨t, tl, ld, vs, lr, lg, lb, vr, vg, ev, ft, l, fl, dl, nf⟩ := h
  refine ⟨t, tl, ld, vs, lr, lg, lb, vr, vg, ev, ft, l, fl, dl, fun b hb => ⟨(nf b hb).1, (nf b hb).2.1, fun z => ?_⟩⟩
  subst z
  rcases hb with rfl | rfl | rfl | rfl
  · have := l.r; rw [n] at this; cases this
  · have := l.g; rw [n] at this; cases this
  · have := l.b; rw [n] at this; cases this
  · rw [n] at fl; cases fl
theorem PairAt.dv (h : PairAt H x Lp La v st) : Dv H v (.tuple [lookD x.ps st, .list (st.deeds.map Deed.data)]) := by
  obtain ⟨t, tl, ld, vs, lr, lg, lb, vr, vg, rfl, ft, l, fl, dl, nf⟩ := h
  exact .tup ft (.cons l.dv (.cons (.lst fl dl) .nil))
end
inductive PairsAt (H : Hp) (y : Ws) (Lp La : Addr) : List V → List SS → Prop
  | nil : PairsAt H y Lp La [] []
  | cons {v : V} {st : SS} {vs : List V} {sts : List SS} : PairAt H y Lp La v st → PairsAt H y Lp La vs sts → PairsAt H y Lp La (v :: vs) (st :: sts)
theorem PairsAt.map {H H' : Hp} {x y : Ws} {Lp La Lp' La' : Addr} {vs : List V} {sts : List SS} (h : PairsAt H x Lp La vs sts) (f : ∀ v st, st ∈ sts → PairAt H x Lp La v st → PairAt H' y Lp' La' v st) : PairsAt H' y Lp' La' vs sts := by
  induction h with
  | nil => exact .nil
  | cons a _ ih => exact .cons (f _ _ List.mem_cons_self a) (ih fun v st m => f v st (List.mem_cons_of_mem _ m))
theorem PairsAt.snoc {H : Hp} {y : Ws} {Lp La : Addr} {vs : List V} {sts : List SS} {v : V} {st : SS} (h : PairsAt H y Lp La vs sts) (a : PairAt H y Lp La v st) : PairsAt H y Lp La (vs ++ [v]) (sts ++ [st]) := by
  induction h with
  | nil => exact .cons a .nil
  | cons b _ ih => exact .cons b ih
theorem PairsAt.len {H : Hp} {y : Ws} {Lp La : Addr} {vs : List V} {sts : List SS} (h : PairsAt H y Lp La vs sts) : vs.length = sts.length := by
  induction h with
  | nil => rfl
  | cons _ _ ih => simp [ih]
theorem PairsAt.unsnoc {H : Hp} {y : Ws} {Lp La : Addr} : ∀ {sts : List SS} {st : SS} {vs : List V}, PairsAt H y Lp La vs (sts ++ [st]) → ∃ vs0 v, vs = vs0 ++ [v] ∧ PairsAt H y Lp La vs0 sts ∧ PairAt H y Lp La v st
  | [], st, vs, h => by
    cases h with
    | cons a h => cases h; exact ⟨[], _, rfl, .nil, a⟩
  | x :: sts, st, vs, h => by
    cases h with
    | cons a h =>
      obtain ⟨vs0, v, e, h1, h2⟩ := PairsAt.unsnoc (sts := sts) h
      exact ⟨_ :: vs0, v, by rw [e]; rfl, .cons a h1, h2⟩
theorem PairAt.new {K : PySem.W.Frag} {H0 H1 H2 H3 : Hp} {x : Ws} {Lp La t tl ld lr lg lb : Addr} {vr vg vs : List V} {oP oA : HO} (a : x.at K H0) (eP : H0 Lp = some oP) (eA : H0 La = some oA) (s1 : Same H0 H1) (lk : LookAt H1 tl lr lg lb vr vg x.ps x.now)
    (n1 : H0 lr = none) (n2 : H0 lg = none) (n3 : H0 lb = none) (s2 : Same H1 H2) (nd : H1 ld = none) (fd : H2 ld = some (.lst vs)) (dd : DvAll H2 vs (x.now.deeds.map Deed.data)) (s3 : Same H2 H3) (ft : H3 t = some (.tup [.ref tl, .ref ld])) : PairAt H3 x Lp La (.ref t) x.now := by
  have n4 := s1.free nd
  refine ⟨t, tl, ld, vs, lr, lg, lb, vr, vg, rfl, ft, lk.same (s2.trans s3), s3 _ _ fd, dvAll_same s3 dd, fun b hb => ?_⟩
  have nb : H0 b = none := by rcases hb with rfl | rfl | rfl | rfl <;> assumption
  exact ⟨Ws.at.freshM (x := x) a nb, fun z => (by rw [z, eP] at nb; cases nb), fun z => (by rw [z, eA] at nb; cases nb)⟩
theorem eff_deeds {ps : List Pic} {st : SS} {dd : Deed} : (eff ps st dd).deeds = st.deeds ++ [dd] := by cases dd <;> rfl
theorem cut_41 {ns : List Int} (h : ns.length ≤ 63) : ∃ ms : List Int, cutV (ns.map V.int) (some 1) (some 41) = ms.map V.int ∧ ms.length ≤ 40 := by
  have key : ∀ n : Nat, n < 64 → HT.sIx n n (some 41) - HT.sIx n 0 (some 1) ≤ 40 := by decide
  unfold cutV
  refine ⟨(ns.drop (HT.sIx (ns.map V.int).length 0 (some 1))).take (HT.sIx (ns.map V.int).length (ns.map V.int).length (some 41) - HT.sIx (ns.map V.int).length 0 (some 1)), by rw [List.map_take, List.map_drop], ?_⟩
  have := key (ns.map V.int).length (by rw [List.length_map]; omega)
  rw [List.length_take]
  omega
/-- the law's own three lists beside a shop -/
structure BF (H : Hp) (y : Ws) (Lp La lc : Addr) (vp va : List V) (vn : V) (past ahead : List SS) (now : SS) (cs : List Int) : Prop where
  fp : H Lp = some (.lst vp)
  op : Off y Lp
  pp : PairsAt H y Lp La vp past
  fa : H La = some (.lst va)
  oa : Off y La
  pa : PairsAt H y Lp La va ahead
  pn : PairAt H y Lp La vn now
  pl : Lp ≠ La
  fc : H lc = some (.lst (cs.map V.int))
  oc : Off y lc
  cp : lc ≠ Lp
  ca : lc ≠ La
section
variable {K : PySem.W.Frag} {H H' : Hp} {x y : Ws} {Lp La lc : Addr} {vp va : List V} {vn : V} {past ahead : List SS} {now : SS} {cs : List Int}
theorem BF.same (h : BF H y Lp La lc vp va vn past ahead now cs) (s : Same H H') : BF H' y Lp La lc vp va vn past ahead now cs :=
  ⟨s _ _ h.fp, h.op, h.pp.map fun _ _ _ a => a.same s, s _ _ h.fa, h.oa, h.pa.map fun _ _ _ a => a.same s, h.pn.same s, h.pl, s _ _ h.fc, h.oc, h.cp, h.ca⟩
theorem BF.gone (h : BF H x Lp La lc vp va vn past ahead now cs) (a : x.at K H) (ok : ∀ st, st = now ∨ st ∈ past ∨ st ∈ ahead → StOk x.ps x.k st) (g : Gone H x H' y) : BF H' y Lp La lc vp va vn past ahead now cs :=
  ⟨g.keep _ _ h.fp (h.op.foot a), h.op.gone h.fp g, h.pp.map fun _ _ m b => b.gone (ok _ (.inr (.inl m))) a g, g.keep _ _ h.fa (h.oa.foot a), h.oa.gone h.fa g, h.pa.map fun _ _ m b => b.gone (ok _ (.inr (.inr m))) a g, h.pn.gone (ok _ (.inl rfl)) a g, h.pl, g.keep _ _ h.fc (h.oc.foot a), h.oc.gone h.fc g, h.cp, h.ca⟩
theorem BF.put {c : Addr} {o u : HO} (h : BF H y Lp La lc vp va vn past ahead now cs) (e : H c = some u) (n : NoTup u) (hc : c = Lp ∨ c = La) : PairsAt (upd H c o) y Lp La vp past ∧ PairsAt (upd H c o) y Lp La va ahead ∧ PairAt (upd H c o) y Lp La vn now ∧ (upd H c o) lc = some (.lst (cs.map V.int)) :=
  ⟨h.pp.map fun _ _ _ a => a.put e n hc, h.pa.map fun _ _ _ a => a.put e n hc, h.pn.put e n hc, by
    rw [upd_ne (fun z => hc.elim (fun y => h.cp (z.trans y)) fun y => h.ca (z.trans y))]
    exact h.fc⟩
end
theorem dpt_deeds : ∀ l : List Deed, dptAll (l.map Deed.data) ≤ 1
  | [] => Nat.zero_le _
  | d :: l => by
    have := dpt_deeds l
    have h2 := dpt_ints d.args
    rw [List.map_cons, dptAll]
    simp only [Deed.data, dpt, dptAll, h2]
    omega
theorem dpt_pair (ps : List Pic) (st : SS) (l : List Deed) : dpt (.tuple [lookD ps st, .list (l.map Deed.data)]) < 8 := by
  have h1 := dpt_rows st.rods
  have h2 := dpt_glass st.a0 st.a1 st.a2 (insideTo ps st.rods)
  have h3 := dpt_ints st.bun
  have h4 := dpt_deeds l
  unfold lookD
  rw [glassD_of]
  simp only [dpt, dptAll]
  omega
/-! ### no glass is lost -/
def Bal (ps : List Pic) (st : SS) : Prop := ∀ j, st.a0.getD j 0 = inJ ps st.rods j + st.a1.getD j 0 + st.a2.getD j 0
theorem sums_get (P : Pic) (j : Nat) : P.sums.getD j 0 = if j < 10 then P.cnt (j : Int) else 0 := by
  unfold Pic.sums
  rw [List.getD_eq_getElem?_getD, List.getElem?_map]
  by_cases h : j < 10
  · rw [List.getElem?_range h, if_pos h]; rfl
  · rw [List.getElem?_eq_none (by simp; omega), if_neg h]; rfl
theorem held1_of {ps : List Pic} {f : Int} {P : Pic} (h : IsF ps f P) (t : Int) (j : Nat) : held1 ps f t j = (if j < 10 then P.cnt (j : Int) else 0) * 4 ^ (t.toNat - P.depth) := by
  unfold held1
  rw [picF_of h, sums_get]
theorem cnt_mk {a b c d : Pic} {t : Nat} (h1 : a.depth ≤ t) (h2 : b.depth ≤ t) (h3 : c.depth ≤ t) (h4 : d.depth ≤ t) (k : Int) :
    (Pic.mk a b c d).cnt k * 4 ^ (t + 1 - (Pic.mk a b c d).depth) = a.cnt k * 4 ^ (t - a.depth) + b.cnt k * 4 ^ (t - b.depth) + c.cnt k * 4 ^ (t - c.depth) + d.cnt k * 4 ^ (t - d.depth) := by
  unfold Pic.mk
  split
  · rename_i h
    obtain ⟨rfl, rfl, rfl, h0⟩ := h
    rw [h0, Nat.sub_zero, Nat.sub_zero, Int.pow_succ, ← Int.mul_assoc]
    omega
  · simp only [Pic.cnt, Pic.depth]
    generalize hm : max (max a.depth b.depth) (max c.depth d.depth) = m
    have ha : a.depth ≤ m := by omega
    have hb : b.depth ≤ m := by omega
    have hc : c.depth ≤ m := by omega
    have hd : d.depth ≤ m := by omega
    have hmt : m ≤ t := by omega
    have e : t + 1 - (1 + m) = t - m := by omega
    have key : ∀ (x : Pic), x.depth ≤ m → x.cnt k * 4 ^ (m - x.depth) * 4 ^ (t - m) = x.cnt k * 4 ^ (t - x.depth) := fun x hx => by
      rw [Int.mul_assoc, ← Int.pow_add]
      congr 2
      omega
    rw [e, Int.add_mul, Int.add_mul, Int.add_mul, key a ha, key b hb, key c hc, key d hd]
theorem Bal.app {ps qs : List Pic} {k : Nat} {st : SS} (ok : StOk ps k st) (b : Bal ps st) : Bal (ps ++ qs) st := fun j => by
  have e := b j
  rw [← inside_get, ← inside_app (qs := qs) (fun r hr => (ok.rod r hr).1), inside_get] at e
  exact e
theorem inJ_one (ps : List Pic) (r : Rod) (j : Nat) : inJ ps [r] j = held1 ps r.f r.t j * r.l := by
  rw [inJ_cons, held_get]
  simp [inJ]
theorem drop_up {rods : List Rod} (h : (rods.map (·.n)).Pairwise (· < ·)) (n : Int) : ((dropR rods n).map (·.n)).Pairwise (· < ·) := h.sublist (List.Sublist.map _ List.filter_sublist)
theorem Bal.eff {ps qs : List Pic} {k : Nat} {st : SS} {dd : Deed} (ok : StOk ps k st) (hr : refuse ps st dd = none) (hp : hasP (ps ++ qs) st dd) (b0 : Bal ps st) : Bal (ps ++ qs) (Mur.eff (ps ++ qs) st dd) := by
  have b := b0.app (qs := qs) ok
  have okA : StOk (ps ++ qs) k st := ok.mono (Nat.le_refl _)
  have hr : refuse (ps ++ qs) st dd = none := by rw [refuse_app ok]; exact hr
  clear b0 ok
  generalize ps ++ qs = ps at *
  cases dd with
  | gather c t l =>
    intro j
    have hc : (0 ≤ c ∧ c ≤ 9) ∧ (0 ≤ t ∧ t ≤ 12) := by
      unfold refuse at hr
      simp only at hr
      split at hr
      · cases hr
      · split at hr
        · cases hr
        · rename_i a b; exact ⟨Decidable.not_not.mp a, Decidable.not_not.mp b⟩
    have e0 := b j
    show (st.a0.set c.toNat (st.a0.getD c.toNat 0 + 4 ^ t.toNat * l)).getD j 0 = inJ ps (st.rods ++ [⟨st.com, (ix ps (.p c) : Nat), t, l⟩]) j + st.a1.getD j 0 + st.a2.getD j 0
    rw [inJ_app, inJ_one, ← set_glass (l := l) (by rw [okA.a0.ten]; omega), held1_of (IsF.ix hp)]
    have e1 : (if j < 10 then (Pic.p c).cnt (j : Int) else 0) = (if decide ((j : Int) = (c.toNat : Int)) then 1 else 0 : Int) := by
      by_cases hj : (j : Int) = (c.toNat : Int)
      · rw [decide_eq_true hj, if_pos (by omega)]
        simp only [Pic.cnt]
        rw [if_pos (by omega)]
        rfl
      · have e : (Pic.p c).cnt (j : Int) = 0 := by
          simp only [Pic.cnt]
          rw [if_neg (by omega)]
        rw [decide_eq_false hj, e]
        simp
    dsimp only
    rw [e1, e0, Pic.depth, Nat.sub_zero, Int.one_mul]
    generalize (if decide ((j : Int) = (c.toNat : Int)) = true then 1 else 0 : Int) = u
    have e2 : u * l * 4 ^ t.toNat = u * 4 ^ t.toNat * l := by rw [Int.mul_assoc, Int.mul_comm l, ← Int.mul_assoc]
    rw [e2]
    omega
  | pull n m =>
    intro j
    have e0 := b j
    obtain ⟨r, hf⟩ := found (st := st) hr
    obtain ⟨rfl, hmem⟩ := findR_n hf
    have hd : 1 ≤ m ∧ depthF ps r.f ≤ r.t - m := by
      unfold refuse at hr
      simp only [hf] at hr
      split at hr
      · cases hr
      · split at hr
        · cases hr
        · omega
    obtain ⟨k', rfl⟩ : ∃ k' : Nat, m = (k' : Nat) := ⟨m.toNat, by omega⟩
    have e1 := inJ_set (ps := ps) (r := ⟨r.n, r.f, r.t - k', r.l * 4 ^ k'⟩) okA.up hf j
    rw [held_get, held_get] at e1
    dsimp only at e1
    have e3 : held1 ps r.f (r.t - k') j * (r.l * 4 ^ k') = held1 ps r.f r.t j * r.l := by rw [Int.mul_comm r.l, ← Int.mul_assoc, held1_pull j hd.2]
    rw [e3] at e1
    have e4 := addK e1
    simp only [Mur.eff, findR_some hf]
    show st.a0.getD j 0 = inJ ps (setR st.rods ⟨r.n, r.f, r.t - k', r.l * 4 ^ (k' : Int).toNat⟩) j + st.a1.getD j 0 + st.a2.getD j 0
    rw [Int.toNat_natCast, e4]
    exact e0
  | turn n u =>
    intro j
    have e0 := b j
    obtain ⟨r, hf⟩ := found (st := st) hr
    obtain ⟨rfl, hmem⟩ := findR_n hf
    have hu : 0 ≤ u ∧ u ≤ 7 := by
      unfold refuse at hr
      simp only [hf] at hr
      split at hr
      · cases hr
      · omega
    obtain ⟨P, hP, hd⟩ := (okA.find hf).pic
    unfold hasP at hp
    simp only [findR_some hf, picF_of hP] at hp
    have e1 := inJ_set (ps := ps) (r := ⟨r.n, (ix ps (P.turn u) : Nat), r.t, r.l⟩) okA.up hf j
    rw [held_get, held_get] at e1
    dsimp only at e1
    rw [held1_turn (t := r.t) hP (IsF.ix hp) hu.1 (by omega) j] at e1
    have e4 := addK e1
    simp only [Mur.eff, findR_some hf, picF_of hP]
    rw [e4]
    exact e0
  | cut n m =>
    intro j
    have e0 := b j
    obtain ⟨r, hf⟩ := found (st := st) hr
    obtain ⟨rfl, hmem⟩ := findR_n hf
    have e1 := inJ_set (ps := ps) (r := ⟨r.n, r.f, r.t, m⟩) okA.up hf j
    rw [held_get, held_get] at e1
    dsimp only at e1
    simp only [Mur.eff, findR_some hf]
    rw [inJ_app, inJ_one]
    dsimp only
    rw [Int.mul_sub]
    generalize held1 ps r.f r.t j * r.l = u1 at e1 ⊢
    generalize held1 ps r.f r.t j * m = u2 at e1 ⊢
    omega
  | fuse n m =>
    intro j
    have e0 := b j
    cases hf : findR st.rods n with
    | none => unfold refuse at hr; simp only [hf] at hr; cases hr
    | some r =>
    cases hg : findR st.rods m with
    | none => unfold refuse at hr; simp only [hf, hg] at hr; cases hr
    | some r2 =>
    obtain ⟨rfl, hmem⟩ := findR_n hf
    obtain ⟨rfl, hmem2⟩ := findR_n hg
    have hc : r.n ≠ r2.n ∧ r2.f = r.f ∧ r2.t = r.t := by
      unfold refuse at hr
      simp only [hf, hg] at hr
      split at hr
      · cases hr
      · split at hr
        · cases hr
        · rename_i a b; exact ⟨a, Decidable.not_not.mp b⟩
    have e1 := inJ_set (ps := ps) (r := ⟨r.n, r.f, r.t, r.l + r2.l⟩) (r0 := r) (drop_up okA.up r2.n) (by rw [findR_drop hc.1]; exact hf) j
    have e2 := inJ_drop (ps := ps) okA.up hg j
    rw [held_get, held_get] at e1
    rw [held_get, hc.2.1, hc.2.2] at e2
    dsimp only at e1
    rw [Int.mul_add] at e1
    simp only [Mur.eff, findR_some hf, findR_some hg]
    generalize held1 ps r.f r.t j * r.l = u1 at e1 e2 ⊢
    generalize held1 ps r.f r.t j * r2.l = u2 at e1 e2 ⊢
    omega
  | sell n =>
    intro j
    have e0 := b j
    obtain ⟨r, hf⟩ := found (st := st) hr
    have e2 := inJ_drop (ps := ps) okA.up hf j
    simp only [Mur.eff, findR_some hf]
    rw [addL_get okA.a1.ten (held_len _ _)]
    omega
  | waste n =>
    intro j
    have e0 := b j
    obtain ⟨r, hf⟩ := found (st := st) hr
    have e2 := inJ_drop (ps := ps) okA.up hf j
    simp only [Mur.eff, findR_some hf]
    rw [addL_get okA.a2.ten (held_len _ _)]
    omega
  | bundle n1 n2 n3 n4 =>
    intro j
    have e0 := b j
    by_cases hn : findR st.rods n1 = none ∨ findR st.rods n2 = none ∨ findR st.rods n3 = none ∨ findR st.rods n4 = none
    · rw [refuse_none hn] at hr; cases hr
    simp only [not_or] at hn
    obtain ⟨h1, h2, h3, h4⟩ := hn
    obtain ⟨ra, fa⟩ := Option.ne_none_iff_exists'.mp h1
    obtain ⟨rb, fb⟩ := Option.ne_none_iff_exists'.mp h2
    obtain ⟨rc, fc⟩ := Option.ne_none_iff_exists'.mp h3
    obtain ⟨rd, fd⟩ := Option.ne_none_iff_exists'.mp h4
    have hc : ¬ (n1 = n2 ∨ n1 = n3 ∨ n1 = n4 ∨ n2 = n3 ∨ n2 = n4 ∨ n3 = n4) ∧ (rb.t = ra.t ∧ rb.l = ra.l) ∧ (rc.t = ra.t ∧ rc.l = ra.l) ∧ rd.t = ra.t ∧ rd.l = ra.l := by
      unfold refuse at hr
      simp only [fa, fb, fc, fd] at hr
      split at hr
      · cases hr
      · split at hr
        · cases hr
        · rename_i a b; exact ⟨a, Decidable.not_not.mp b⟩
    obtain ⟨hne, ⟨tb, lb⟩, ⟨tc, lc⟩, td, ld⟩ := hc
    simp only [not_or] at hne
    obtain ⟨m12, m13, m14, m23, m24, m34⟩ := hne
    obtain ⟨PA, hPA, da⟩ := (okA.find fa).pic
    obtain ⟨PB, hPB, db⟩ := (okA.find fb).pic
    obtain ⟨PC, hPC, dc⟩ := (okA.find fc).pic
    obtain ⟨PD, hPD, dd⟩ := (okA.find fd).pic
    unfold hasP at hp
    simp only [findR_some fa, findR_some fb, findR_some fc, findR_some fd, picF_of hPA, picF_of hPB, picF_of hPC, picF_of hPD] at hp
    have u1 := drop_up okA.up n1
    have u2 := drop_up u1 n2
    have u3 := drop_up u2 n3
    have d1 := inJ_drop (ps := ps) okA.up fa j
    have d2 := inJ_drop (ps := ps) u1 (n := n2) (by rw [findR_drop (Ne.symm m12)]; exact fb) j
    have d3 := inJ_drop (ps := ps) u2 (n := n3) (by rw [findR_drop (Ne.symm m23), findR_drop (Ne.symm m13)]; exact fc) j
    have d4 := inJ_drop (ps := ps) u3 (n := n4) (by rw [findR_drop (Ne.symm m34), findR_drop (Ne.symm m24), findR_drop (Ne.symm m14)]; exact fd) j
    rw [held_get, held1_of hPA] at d1
    rw [held_get, held1_of hPB, tb, lb] at d2
    rw [held_get, held1_of hPC, tc, lc] at d3
    rw [held_get, held1_of hPD, td, ld] at d4
    simp only [Mur.eff, findR_some fa, findR_some fb, findR_some fc, findR_some fd, picF_of hPA, picF_of hPB, picF_of hPC, picF_of hPD]
    rw [inJ_app, inJ_one, held1_of (IsF.ix hp)]
    dsimp only
    have ht : (ra.t + 1).toNat = ra.t.toNat + 1 := by omega
    rw [ht]
    have ck := cnt_mk (a := PA) (b := PB) (c := PC) (d := PD) (t := ra.t.toNat) (by omega) (by omega) (by omega) (by omega) (j : Int)
    by_cases hj : j < 10
    · simp only [if_pos hj] at d1 d2 d3 d4 ⊢
      rw [ck, Int.add_mul, Int.add_mul, Int.add_mul]
      generalize PA.cnt (j : Int) * 4 ^ (ra.t.toNat - PA.depth) * ra.l = x1 at d1 ⊢
      generalize PB.cnt (j : Int) * 4 ^ (ra.t.toNat - PB.depth) * ra.l = x2 at d2 ⊢
      generalize PC.cnt (j : Int) * 4 ^ (ra.t.toNat - PC.depth) * ra.l = x3 at d3 ⊢
      generalize PD.cnt (j : Int) * 4 ^ (ra.t.toNat - PD.depth) * ra.l = x4 at d4 ⊢
      omega
    · simp only [if_neg hj, Int.zero_mul] at d1 d2 d3 d4 ⊢
      omega
theorem cut_37 {ns : List Int} (h : ns.length ≤ 63) : ∃ ms : List Int, cutV (ns.map V.int) (some 1) (some 37) = ms.map V.int ∧ ms.length ≤ 36 := by
  have key : ∀ n : Nat, n < 64 → HT.sIx n n (some 37) - HT.sIx n 0 (some 1) ≤ 36 := by decide
  unfold cutV
  refine ⟨(ns.drop (HT.sIx (ns.map V.int).length 0 (some 1))).take (HT.sIx (ns.map V.int).length (ns.map V.int).length (some 37) - HT.sIx (ns.map V.int).length 0 (some 1)), by rw [List.map_take, List.map_drop], ?_⟩
  have := key (ns.map V.int).length (by rw [List.length_map]; omega)
  rw [List.length_take]
  omega
theorem eff_a0 {ps : List Pic} {st : SS} {dd : Deed} (h : dd.name ≠ "gather") : (eff ps st dd).a0 = st.a0 := by
  cases dd with
  | gather a b c => exact absurd rfl h
  | _ => rfl
end Mur
/-! Two shops with one store. -/
namespace Mur
open PySem hiding start
open PySem.Spec L2
open PyProof.Rows hiding St
/-- the two share their store and nothing else -/
structure Two (x z : Ws) : Prop where
  p : z.p = x.p
  A : z.A = x.A
  D : z.D = x.D
  ps : z.ps = x.ps
  bs : z.bs = x.bs
  sep : ∀ b ∈ z.B.muts z.s, b ∉ x.B.muts x.s
theorem Two.symm {x z : Ws} (h : Two x z) : Two z x := ⟨h.p.symm, h.A.symm, h.D.symm, h.ps.symm, h.bs.symm, fun b hb hz => h.sep b hz hb⟩
/-- what the one shop does leaves the other -/
theorem Two.other {K : PySem.W.Frag} {H H' : Hp} {x y z : Ws} (h : Two x z) (hx : x.at K H) (hz : z.at K H) (g : Gone H x H' y) (hy : y.at K H') :
    ∃ z' : Ws, z'.at K H' ∧ Two y z' ∧ (∃ qs, z'.ps = z.ps ++ qs) ∧ z'.now = z.now ∧ z'.past = z.past ∧ z'.ahead = z.ahead ∧ z'.s = z.s ∧ z'.B = z.B ∧ z'.k = max z.k y.k := by
  obtain ⟨qs, eq⟩ := g.ext
  have zp : ∀ b ∈ z.B.muts z.s, ¬ x.foot b := fun b hb w => by
    rcases w with w | w
    · exact hz.ap b hb (by rw [h.D]; exact hx.F.df b w)
    · exact h.sep b hb w
  have yk := hy.kl
  have zk := hz.kl
  have ybl := hy.bl
  have zpl := hz.pl
  have hS : ShopAt (He.ga K "Shop") H' z.s y.p z.B z.now z.past z.ahead := by
    have := hz.S.stay (hx.tup g.keep) fun b hb o e => g.keep _ _ e (zp b hb)
    rw [h.p, ← g.p] at this
    exact this
  have hap : ∀ b ∈ z.B.muts z.s, ¬ y.D b := fun b hb w => by
    rcases g.D b w with w | w
    · exact hz.ap b hb (by rw [h.D]; exact w)
    · obtain ⟨o, e, _⟩ := hz.S.there b hb
      rw [w] at e; cases e
  refine ⟨⟨y.p, y.A, y.D, y.ps, y.bs, z.s, z.B, z.now, z.past, z.ahead, max z.k y.k⟩, ⟨hy.F, hy.base, hS, hap, fun st hst => ?_, by dsimp only; omega, by dsimp only; omega, by dsimp only; omega⟩, ⟨rfl, rfl, rfl, rfl, rfl, ?_⟩, ⟨qs, ?_⟩, rfl, rfl, rfl, rfl, rfl, rfl⟩
  · have ok := (hz.ok st hst).mono (qs := qs) (j := max z.k y.k) (by omega)
    rw [h.ps, ← eq] at ok
    exact ok
  · intro b hb hm
    rcases g.m b hm with w | w
    · exact h.sep b hb w
    · obtain ⟨o, e, _⟩ := hz.S.there b hb
      rw [w] at e; cases e
  · show y.ps = z.ps ++ qs
    rw [h.ps, eq]
def spRods (K : PySem.W.Frag) : Sp := fun vs H Q E => ∃ x : Ws, vs = [.ref x.s] ∧ x.at K H ∧ x.now.rods.length < 64 ∧ ∀ H' l, Same H H' → H l = none → H' l = some (.lst ((x.now.rods.map (·.n)).map V.int)) → Q (.ref l) H'
theorem cut_31 {ns : List Int} (h : ns.length ≤ 63) : ∃ ms : List Int, cutV (ns.map V.int) (some 1) (some 31) = ms.map V.int ∧ ms.length ≤ 30 := by
  have key : ∀ n : Nat, n < 64 → HT.sIx n n (some 31) - HT.sIx n 0 (some 1) ≤ 30 := by decide
  unfold cutV
  refine ⟨(ns.drop (HT.sIx (ns.map V.int).length 0 (some 1))).take (HT.sIx (ns.map V.int).length (ns.map V.int).length (some 31) - HT.sIx (ns.map V.int).length 0 (some 1)), by rw [List.map_take, List.map_drop], ?_⟩
  have := key (ns.map V.int).length (by rw [List.length_map]; omega)
  rw [List.length_take]
  omega
def newW (p : Addr) (A : FA) (D : Addr → Prop) (s : Addr) (B : SB) : Ws := ⟨p, A, D, [], [], s, B, noneYet, [], [], 0⟩
theorem newW_at {K : PySem.W.Frag} {H1 H2 : Hp} {p : Addr} {A : FA} {D : Addr → Prop} {s : Addr} {B : SB} (hF : FacesAt (He.ga K "Faces") H1 p A D []) (s2 : Same H1 H2) (hS : ShopAt (He.ga K "Shop") H2 s p B noneYet [] []) (fr : ∀ b ∈ B.muts s, H1 b = none) : (newW p A D s B).at K H2 := by
  have z10 : SumOk 0 (List.replicate 10 0) := ⟨by simp, fun x hx => by
    rw [List.mem_replicate] at hx
    rw [hx.2]
    exact ⟨Int.le_refl _, pow2 _⟩⟩
  have ok0 : StOk [] 0 noneYet := ⟨by simp [noneYet], by simp [noneYet], by simp [noneYet], by simp [noneYet], by simp [noneYet], by simp [noneYet], by simp [noneYet], z10, z10, z10, by simp [noneYet]⟩
  refine ⟨hF.same s2, by simp [Base, newW], hS, fun a ha z => hF.nd (fr a ha) z, fun st hst => ?_, by simp [newW], by simp [newW], by simp [newW]⟩
  rcases hst with rfl | z | z
  · exact ok0
  · cases z
  · cases z
theorem newW_two {K : PySem.W.Frag} {H2 : Hp} {p : Addr} {A : FA} {D : Addr → Prop} {s s' : Addr} {B B' : SB} (h : (newW p A D s B).at K H2) (fr : ∀ b ∈ B'.muts s', H2 b = none) : Two (newW p A D s B) (newW p A D s' B') :=
  ⟨rfl, rfl, rfl, rfl, rfl, fun b hb hm => by
    obtain ⟨o, e, _⟩ := h.S.there b hm
    rw [fr b hb] at e; cases e⟩
theorem Two.off {z y z' : Ws} {b : Addr} (hy : Off y b) (hz : Off z b) (t : Two y z') (e1 : z'.s = z.s) (e2 : z'.B = z.B) : Off z' b := ⟨by rw [t.D]; exact hy.1, by rw [e1, e2]; exact hz.2⟩
end Mur
/-! Texts, and tuples of ints and texts as deeds that may be spoilt. -/
namespace Mur
open PySem hiding start
open PySem.Spec L2
open PyProof.Rows hiding St
theorem z_m1 {r : V → List V → Hp → VK → Prop} {to te : TE} {σ : L2.St} {H : Hp} {Q : VK} (h : to σ H fun x H1 => (∃ a, x = .str a) ∧ te σ H1 fun y H2 => r x [y] H2 Q) : tM1 r to te σ H Q := h
def names8 : List Str := ["gather", "pull", "bundle", "turn", "cut", "fuse", "sell", "waste"]
def many8 : List Int := [3, 2, 4, 2, 2, 2, 1, 1]
theorem name8 {t : Int} (h0 : 0 ≤ t) (h8 : t < 8) : ∃ (w : Str) (m : Nat), atI (names8.map V.str) t = some (.str w) ∧ atI (many8.map V.int) t = some (.int ((m : Nat) : Int)) ∧ shapesL.lookup w = some ((m : Nat) : Int) ∧ m ≤ 4 ∧ w ∈ names8 := by
  rcases (show t = 0 ∨ t = 1 ∨ t = 2 ∨ t = 3 ∨ t = 4 ∨ t = 5 ∨ t = 6 ∨ t = 7 by omega) with rfl | rfl | rfl | rfl | rfl | rfl | rfl | rfl
  · exact ⟨"gather", 3, by rfl, by rfl, by decide +kernel, by decide, by decide +kernel⟩
  · exact ⟨"pull", 2, by rfl, by rfl, by decide +kernel, by decide, by decide +kernel⟩
  · exact ⟨"bundle", 4, by rfl, by rfl, by decide +kernel, by decide, by decide +kernel⟩
  · exact ⟨"turn", 2, by rfl, by rfl, by decide +kernel, by decide, by decide +kernel⟩
  · exact ⟨"cut", 2, by rfl, by rfl, by decide +kernel, by decide, by decide +kernel⟩
  · exact ⟨"fuse", 2, by rfl, by rfl, by decide +kernel, by decide, by decide +kernel⟩
  · exact ⟨"sell", 1, by rfl, by rfl, by decide +kernel, by decide, by decide +kernel⟩
  · exact ⟨"waste", 1, by rfl, by rfl, by decide +kernel, by decide, by decide +kernel⟩
theorem inNames (z : Str) : inV (.str z) (names8.map V.str) = decide (z ∈ names8) := by
  have : ∀ l : List Str, inV (.str z) (l.map V.str) = decide (z ∈ l) := fun l => by
    induction l with
    | nil => rfl
    | cons y l ih =>
      have e : inV (.str z) (V.str y :: l.map V.str) = ((y == z) || inV (.str z) (l.map V.str)) := rfl
      rw [List.map_cons, e, ih]
      by_cases h : y = z
      · subst h; simp
      · have h' : ¬ z = y := fun q => h q.symm
        simp [h, h']
  exact this _
/-- where a name stands -/
theorem name_at {z : Str} (h : z ∈ names8) : ∃ (j m : Nat), names8[j]? = some z ∧ (∀ i, i < j → names8[i]? ≠ some z) ∧ atI (many8.map V.int) ((j : Nat) : Int) = some (.int ((m : Nat) : Int)) ∧ shapesL.lookup z = some ((m : Nat) : Int) := by
  have key : ∀ j : Nat, j < 8 → ∀ i, i < j → names8[i]? ≠ names8[j]? := by decide +kernel
  simp only [names8, List.mem_cons, List.mem_nil_iff, or_false] at h
  rcases h with rfl | rfl | rfl | rfl | rfl | rfl | rfl | rfl
  · exact ⟨0, 3, by rfl, key 0 (by decide), by rfl, by decide +kernel⟩
  · exact ⟨1, 2, by rfl, key 1 (by decide), by rfl, by decide +kernel⟩
  · exact ⟨2, 4, by rfl, key 2 (by decide), by rfl, by decide +kernel⟩
  · exact ⟨3, 2, by rfl, key 3 (by decide), by rfl, by decide +kernel⟩
  · exact ⟨4, 2, by rfl, key 4 (by decide), by rfl, by decide +kernel⟩
  · exact ⟨5, 2, by rfl, key 5 (by decide), by rfl, by decide +kernel⟩
  · exact ⟨6, 1, by rfl, key 6 (by decide), by rfl, by decide +kernel⟩
  · exact ⟨7, 1, by rfl, key 7 (by decide), by rfl, by decide +kernel⟩
theorem name_no {z : Str} (h : z ∉ names8) : shapesL.lookup z = none := by
  simp only [names8, List.mem_cons, List.mem_nil_iff, or_false, not_or] at h
  obtain ⟨h1, h2, h3, h4, h5, h6, h7, h8⟩ := h
  have nb : ∀ {x : Str}, z ≠ x → (z == x) = false := fun h => by simpa using h
  simp only [shapesL, List.lookup_cons, List.lookup_nil, nb h1, nb h2, nb h3, nb h4, nb h5, nb h6, nb h7, nb h8]
/-- ints and short texts -/
def IsS (n : Nat) (v : V) : Prop := (∃ i, v = .int i) ∨ ∃ z, v = .str z ∧ z.length ≤ n
def toD : V → PyData
  | .int i => .int i
  | .str z => .str z
  | _ => .none
theorem IsS.dv {H : Hp} {n : Nat} {v : V} (h : IsS n v) : Dv H v (toD v) ∧ isIS (toD v) = true := by
  rcases h with ⟨i, rfl⟩ | ⟨z, rfl, _⟩
  · exact ⟨.int i, rfl⟩
  · exact ⟨.str z, rfl⟩
theorem IsS.all {H : Hp} {n : Nat} : ∀ {vs : List V}, (∀ v ∈ vs, IsS n v) → DvAll H vs (vs.map toD) ∧ ∀ d ∈ vs.map toD, isIS d = true
  | [], _ => ⟨.nil, by simp⟩
  | v :: vs, h => by
    obtain ⟨a, b⟩ := (h v (by simp)).dv (H := H)
    obtain ⟨c, d⟩ := IsS.all (H := H) (vs := vs) fun w hw => h w (by simp [hw])
    exact ⟨.cons a c, by simpa using ⟨b, fun w hw => d _ (List.mem_map_of_mem hw)⟩⟩
theorem mem_cut {xs : List V} {lo hi : Option Int} {v : V} (h : v ∈ cutV xs lo hi) : v ∈ xs := by
  unfold cutV at h
  exact List.mem_of_mem_drop (List.mem_of_mem_take h)
theorem cut_len (xs : List V) (lo hi : Option Int) : (cutV xs lo hi).length ≤ xs.length := by
  unfold cutV
  rw [List.length_take, List.length_drop]; omega
theorem isS_cut {xs : List V} {lo hi : Option Int} {n : Nat} (h : ∀ v ∈ xs, IsS n v) : ∀ v ∈ cutV xs lo hi, IsS n v := fun v hv => h v (mem_cut hv)
theorem isS_app {xs ys : List V} {n : Nat} (h1 : ∀ v ∈ xs, IsS n v) (h2 : ∀ v ∈ ys, IsS n v) : ∀ v ∈ xs ++ ys, IsS n v := fun v hv => (List.mem_append.mp hv).elim (h1 v) (h2 v)
theorem isS_one {v : V} {n : Nat} (h : IsS n v) : ∀ w ∈ [v], IsS n w := fun w hw => by simp at hw; subst hw; exact h
theorem atI_pick {l : List Str} {n : Nat} {i : Int} (h0 : 0 ≤ i) (h1 : i < (l.length : Nat)) (hl : ∀ z ∈ l, z.length ≤ n) : ∃ z, atI (l.map V.str) i = some (.str z) ∧ z.length ≤ n := by
  have hi : i.toNat < l.length := by omega
  exact ⟨l[i.toNat], atI_of (n := i.toNat) (by rw [List.getElem?_map, List.getElem?_eq_getElem hi]; rfl) (by omega), hl _ (List.getElem_mem hi)⟩
theorem deed_nums {dd : Deed} (h : isDeed dd.items = true) : ∀ x ∈ dd.args, 0 ≤ x ∧ x ≤ 999999999999999999 := fun x hx => by
  have h' : (decide (shapesL.lookup dd.name = some ((dd.args.map PyData.int).length : Int)) && (dd.args.map PyData.int).all numOk) = true := h
  rw [Bool.and_eq_true, List.all_eq_true] at h'
  exact of_decide_eq_true (h'.2 (.int x) (List.mem_map_of_mem hx))
theorem args_len (dd : Deed) : dd.args.length ≤ 4 := by cases dd <;> simp [Deed.args]
theorem name_len (dd : Deed) : dd.name.length ≤ 6 := by cases dd <;> (simp only [Deed.name]; decide +kernel)
theorem num_len {x : Int} (h0 : 0 ≤ x) (h1 : x ≤ 999999999999999999) : (Str.ofString (toString x)).length ≤ 18 := by
  obtain ⟨n, rfl⟩ : ∃ n : Nat, x = (n : Int) := ⟨x.toNat, by omega⟩
  rw [TL.len_tl, TL.tl_num]
  exact TL.numL_len (by decide) (by have : (10 : Nat) ^ 18 = 1000000000000000000 := by decide
                                    omega)
theorem log_small {x : Int} (h0 : 0 ≤ x) (h1 : x ≤ 999999999999999999) : x.natAbs.log2 < 1920 := by
  by_cases h : x.natAbs = 0
  · rw [h]; decide
  · exact Nat.lt_of_lt_of_le ((Nat.log2_lt (k := 64) h).mpr (by omega)) (by decide)
theorem isS_vals {dd : Deed} : ∀ v ∈ dd.vals, IsS 100 v := fun v hv => by
  rcases List.mem_cons.mp hv with rfl | hv
  · exact .inr ⟨_, rfl, Nat.le_trans (name_len dd) (by decide)⟩
  · obtain ⟨x, _, rfl⟩ := List.mem_map.mp hv
    exact .inl ⟨x, rfl⟩
theorem vals_len (dd : Deed) : dd.vals.length ≤ 5 := by
  have := args_len dd
  simp [Deed.vals]; omega
theorem len_one (c : Nat) : (⟨#[c]⟩ : Str).length = 1 := rfl
theorem atI_txt {z : Str} {i : Int} (h0 : 0 ≤ i) (h1 : i < (z.length : Nat)) : ∃ c, atI z.cps.toList i = some c := by
  obtain ⟨n, rfl⟩ : ∃ n : Nat, i = (n : Int) := ⟨i.toNat, by omega⟩
  have hi : n < z.cps.toList.length := by
    have h2 : z.length = z.cps.toList.length := TL.len_tl z
    rw [← h2]; omega
  exact ⟨z.cps.toList[n], atI_nat (List.getElem?_eq_getElem hi)⟩
/-- the length of texts joined -/
theorem joinL_len (S : List Nat) : ∀ l : List (List Nat), (TL.joinL S l).length ≤ (l.map List.length).sum + l.length * S.length
  | [] => by simp [TL.joinL]
  | [p] => by simp [TL.joinL]
  | p :: q :: l => by
    have h := joinL_len S (q :: l)
    have e : TL.joinL S (p :: q :: l) = p ++ (S ++ TL.joinL S (q :: l)) := rfl
    rw [e]
    simp only [List.length_append, List.map_cons, List.sum_cons, List.length_cons] at h ⊢
    rw [Nat.succ_mul]
    omega
theorem str_len {a : Str} {ys : List Str} : (Txt.join a ys).length ≤ (ys.map (·.length)).sum + ys.length * a.length := by
  rw [TL.join_eq, TL.len_tl, TL.tl_join]
  refine Nat.le_trans (joinL_len _ _) ?_
  rw [List.map_map, List.length_map, ← TL.len_tl]
  have : (List.length ∘ TL.tl) = fun y : Str => y.length := by funext y; exact (TL.len_tl y).symm
  rw [this]
  exact Nat.le_refl _
theorem sum_le {l : List Nat} {n : Nat} (h : ∀ x ∈ l, x ≤ n) : l.sum ≤ l.length * n := by
  induction l with
  | nil => simp
  | cons x l ih =>
    have h1 := h x (by simp)
    have h2 := ih fun y hy => h y (by simp [hy])
    rw [List.sum_cons, List.length_cons, Nat.succ_mul]
    omega
end Mur
/-! Deeds as lines of text: written, read, number by number. -/
namespace Mur
open PySem hiding start
open PySem.Spec L2
open PyProof.Rows hiding St
theorem str_ext {x y : Str} : x = y ↔ TL.tl x = TL.tl y := ⟨fun h => by rw [h], TL.ext_tl⟩
theorem len_tl' (x : Str) : x.length = (TL.tl x).length := TL.len_tl x
/-- the number that a word writes -/
def numL? (l : List Nat) : Option Int :=
  if l = [] ∨ 18 < l.length ∨ (l.head? = some 48 ∧ 1 < l.length) then none else if l.all (fun c => decide (48 ≤ c ∧ c ≤ 57)) = true then some ((NumText.digitsVal l : Nat) : Int) else none
def numOf (z : Str) : Option Int := numL? (TL.tl z)
def wordsOf (z : Str) : List Str := Txt.split z " "
/-- the deed that a line writes: its name and numbers -/
def readOf (z : Str) : Option (Str × List Int) := match wordsOf z with
  | [] => none
  | w :: r => if shapesL.lookup w = some ((r.length : Nat) : Int) then (r.mapM numOf).map fun ns => (w, ns) else none
theorem spl_lens : ∀ (l acc : List Nat), (∀ p ∈ TL.spl [32] 0 acc l, p.length ≤ acc.length + l.length) ∧ (TL.spl [32] 0 acc l).length ≤ l.length + 1 ∧ TL.spl [32] 0 acc l ≠ []
  | [], acc => by rw [TL.spl_nil]; simp
  | c :: r, acc => by
    cases h : TL.pre [32] (c :: r) with
    | true =>
      rw [TL.spl_hit h]
      obtain ⟨h1, h2, _⟩ := spl_lens r []
      refine ⟨fun p hp => ?_, ?_, by simp⟩
      · rcases List.mem_cons.mp hp with rfl | hp
        · omega
        · have := h1 p hp
          rw [List.length_nil] at this
          rw [List.length_cons]
          omega
      · have h2 : (TL.spl [32] ([32].length - 1) [] r).length ≤ r.length + 1 := h2
        rw [List.length_cons, List.length_cons]
        exact Nat.succ_le_succ h2
    | false =>
      rw [TL.spl_miss h]
      obtain ⟨h1, h2, h3⟩ := spl_lens r (acc ++ [c])
      refine ⟨fun p hp => ?_, by simp only [List.length_cons]; omega, h3⟩
      have := h1 p hp
      simp only [List.length_append, List.length_cons, List.length_nil] at this ⊢
      omega
theorem tl_blank : TL.tl (" " : Str) = [32] := by decide +kernel
theorem words_tl (z : Str) : (wordsOf z).map TL.tl = TL.spl [32] 0 [] (TL.tl z) := by
  have := TL.split_spl z " " (by rw [tl_blank]; simp) (TL.kind_ok (by decide +kernel))
  rw [tl_blank] at this
  exact this
theorem words_ne (z : Str) : ∃ w r, wordsOf z = w :: r := by
  have h := (spl_lens (TL.tl z) []).2.2
  rw [← words_tl] at h
  cases e : wordsOf z with
  | nil => rw [e] at h; exact absurd rfl h
  | cons w r => exact ⟨w, r, rfl⟩
theorem words_len (z : Str) : (wordsOf z).length ≤ z.length + 1 := by
  have h := (spl_lens (TL.tl z) []).2.1
  rw [← words_tl, List.length_map, ← TL.len_tl] at h
  exact h
theorem word_len {z w : Str} (h : w ∈ wordsOf z) : w.length ≤ z.length := by
  have h2 := (spl_lens (TL.tl z) []).1 (TL.tl w) (by rw [← words_tl]; exact List.mem_map_of_mem h)
  rw [TL.len_tl, TL.len_tl]
  simpa using h2
theorem mapM_some {α β : Type} {f : α → Option β} : ∀ {l : List α} {ys : List β}, l.mapM f = some ys → ys.length = l.length ∧ ∀ (i : Nat) (x : α), l[i]? = some x → ∃ y, f x = some y ∧ ys[i]? = some y
  | [], ys, h => by simp at h; subst h; simp
  | x :: l, ys, h => by
    rw [List.mapM_cons] at h
    cases e1 : f x with
    | none => rw [e1] at h; cases h
    | some y =>
      rw [e1] at h
      cases e2 : l.mapM f with
      | none => rw [e2] at h; cases h
      | some zs =>
        rw [e2] at h
        obtain rfl : y :: zs = ys := Option.some.inj h
        obtain ⟨a, b⟩ := mapM_some e2
        refine ⟨by simp [a], fun i z hz => ?_⟩
        cases i with
        | zero => simp at hz; subst hz; exact ⟨y, e1, rfl⟩
        | succ i => exact b i z (by simpa using hz)
theorem mapM_none {α β : Type} {f : α → Option β} : ∀ {l : List α} {x : α}, x ∈ l → f x = none → l.mapM f = none
  | y :: l, x, hm, hx => by
    rw [List.mapM_cons]
    rcases List.mem_cons.mp hm with rfl | hm
    · rw [hx]; rfl
    · cases f y with
      | none => rfl
      | some _ => rw [mapM_none hm hx]; rfl
theorem mapM_all {α β : Type} {f : α → Option β} : ∀ {l : List α}, (∀ x ∈ l, (f x).isSome = true) → ∃ ys, l.mapM f = some ys
  | [], _ => ⟨[], rfl⟩
  | x :: l, h => by
    obtain ⟨ys, e⟩ := mapM_all (l := l) fun y hy => h y (by simp [hy])
    obtain ⟨y, e1⟩ := Option.isSome_iff_exists.mp (h x (by simp))
    exact ⟨y :: ys, by rw [List.mapM_cons, e1, e]; rfl⟩
theorem mapM_take {α β : Type} {f : α → Option β} : ∀ {l : List α} {ys : List β} (i : Nat), l.mapM f = some ys → (l.take i).mapM f = some (ys.take i)
  | [], ys, i, h => by simp at h; subst h; simp
  | x :: l, ys, 0, h => by simp
  | x :: l, ys, i + 1, h => by
    rw [List.mapM_cons] at h
    cases e1 : f x with
    | none => rw [e1] at h; cases h
    | some y =>
      rw [e1] at h
      cases e2 : l.mapM f with
      | none => rw [e2] at h; cases h
      | some zs =>
        rw [e2] at h
        obtain rfl : y :: zs = ys := Option.some.inj h
        rw [List.take_succ_cons, List.take_succ_cons, List.mapM_cons, e1, mapM_take i e2]; rfl
/-! the line of a deed -/
def numT (x : Int) : Str := Str.ofString (toString x)
def Deed.words (dd : Deed) : List Str := dd.name :: dd.args.map numT
def Deed.line (dd : Deed) : Str := Txt.join " " dd.words
theorem words_args_len (dd : Deed) : dd.words.length = dd.args.length + 1 := by simp [Deed.words]
theorem sum_words {dd : Deed} (h : isDeed dd.items = true) : (dd.words.map (·.length)).sum + dd.words.length * (" " : Str).length ≤ 100 := by
  have h1 := sum_le (l := (dd.args.map numT).map (·.length)) (n := 18) fun x hx => by
    obtain ⟨y, hy, rfl⟩ := List.mem_map.mp hx
    obtain ⟨z, hz, rfl⟩ := List.mem_map.mp hy
    have := deed_nums h z hz
    exact num_len this.1 this.2
  have h2 := name_len dd
  have h3 := args_len dd
  have e : (" " : Str).length = 1 := by decide +kernel
  rw [words_args_len, e]
  simp only [Deed.words, List.map_cons, List.sum_cons]
  simp only [List.length_map] at h1
  omega
theorem line_len {dd : Deed} (h : isDeed dd.items = true) : dd.line.length ≤ 100 := Nat.le_trans str_len (sum_words h)
theorem tl_numT {x : Int} (h : 0 ≤ x) : TL.tl (numT x) = TL.numL x.toNat := by
  obtain ⟨n, rfl⟩ : ∃ n : Nat, x = (n : Int) := ⟨x.toNat, by omega⟩
  exact TL.tl_num n
theorem numL_head : ∀ n : Nat, 0 < n → (TL.numL n).head? ≠ some 48 := fun n => by
  induction n using Nat.strongRecOn with
  | ind n ih =>
    intro h
    by_cases c : n < 10
    · rw [TL.numL_lt c]
      simp; omega
    · rw [TL.numL_step (by omega)]
      have h1 := ih (n / 10) (by omega) (by omega)
      have h2 := TL.numL_ne (n / 10)
      cases e : TL.numL (n / 10) with
      | nil => exact absurd e h2
      | cons a l => rw [e] at h1; simpa using h1
theorem num_back {x : Int} (h0 : 0 ≤ x) (h1 : x ≤ 999999999999999999) : numOf (numT x) = some x := by
  unfold numOf
  rw [tl_numT h0]
  have hn := TL.numL_ne x.toNat
  have hl : (TL.numL x.toNat).length ≤ 18 := TL.numL_len (by decide) (by
    have : (10 : Nat) ^ 18 = 1000000000000000000 := by decide
    omega)
  have hh : ¬ ((TL.numL x.toNat).head? = some 48 ∧ 1 < (TL.numL x.toNat).length) := fun ⟨a, b⟩ => by
    by_cases c : x.toNat = 0
    · rw [c, TL.numL_lt (by decide)] at b; simp at b
    · exact numL_head _ (by omega) a
  unfold numL?
  rw [if_neg (by rintro (z | z | z); exact hn z; omega; exact hh z), if_pos (by
    rw [List.all_eq_true]
    intro c hc
    exact decide_eq_true (TL.numL_digits _ c hc)), TL.numL_val]
  congr 1
  omega
theorem mapM_back : ∀ {l : List Int}, (∀ x ∈ l, 0 ≤ x ∧ x ≤ 999999999999999999) → (l.map numT).mapM numOf = some l
  | [], _ => rfl
  | x :: l, h => by
    rw [List.map_cons, List.mapM_cons, num_back (h x (by simp)).1 (h x (by simp)).2, mapM_back fun y hy => h y (by simp [hy])]
    rfl
theorem name_blank (dd : Deed) : 32 ∉ TL.tl dd.name := by cases dd <;> (simp only [Deed.name]; decide +kernel)
theorem words_back {dd : Deed} (h : isDeed dd.items = true) : wordsOf dd.line = dd.words := by
  unfold wordsOf Deed.line
  refine TL.split_join (s := 32) (S := []) tl_blank (by decide +kernel) (by simp [Deed.words]) fun p hp => ?_
  rcases List.mem_cons.mp hp with rfl | hp
  · exact name_blank dd
  · obtain ⟨x, hx, rfl⟩ := List.mem_map.mp hp
    rw [tl_numT (deed_nums h x hx).1]
    exact TL.numL_free (.inl (by decide))
theorem deed_shape {dd : Deed} (h : isDeed dd.items = true) : shapesL.lookup dd.name = some ((dd.args.length : Nat) : Int) := by
  have h' : (decide (shapesL.lookup dd.name = some ((dd.args.map PyData.int).length : Int)) && (dd.args.map PyData.int).all numOk) = true := h
  rw [Bool.and_eq_true, decide_eq_true_eq, List.length_map] at h'
  exact h'.1
theorem read_back {dd : Deed} (h : isDeed dd.items = true) : readOf dd.line = some (dd.name, dd.args) := by
  unfold readOf
  rw [words_back h]
  show (if shapesL.lookup dd.name = some (((dd.args.map numT).length : Nat) : Int) then ((dd.args.map numT).mapM numOf).map fun ns => (dd.name, ns) else none) = _
  rw [List.length_map, if_pos (deed_shape h), mapM_back (deed_nums h)]
  rfl
/-- what was read is a deed -/
theorem digitsVal_lt : ∀ (l : List Nat) (a : Nat), (∀ c ∈ l, 48 ≤ c ∧ c ≤ 57) → l.foldl (fun acc c => acc * 10 + (c - 48)) a < (a + 1) * 10 ^ l.length
  | [], a, _ => by simp
  | c :: l, a, h => by
    have h1 := digitsVal_lt l (a * 10 + (c - 48)) fun d hd => h d (by simp [hd])
    have hc := h c (by simp)
    rw [List.foldl_cons]
    refine Nat.lt_of_lt_of_le h1 ?_
    rw [List.length_cons, Nat.pow_succ, Nat.mul_comm (10 ^ l.length) 10, ← Nat.mul_assoc]
    exact Nat.mul_le_mul_right _ (by omega)
theorem num_rg {l : List Nat} {x : Int} (h : numL? l = some x) : 0 ≤ x ∧ x ≤ 999999999999999999 := by
  unfold numL? at h
  split at h
  · cases h
  · rename_i hn
    split at h
    · rename_i hd
      obtain rfl := Option.some.inj h
      rw [List.all_eq_true] at hd
      have h1 := digitsVal_lt l 0 fun c hc => of_decide_eq_true (hd c hc)
      have h2 : NumText.digitsVal l = l.foldl (fun acc c => acc * 10 + (c - 48)) 0 := rfl
      have h3 : (10 : Nat) ^ l.length ≤ 10 ^ 18 := Nat.pow_le_pow_right (by decide) (by
        by_cases c : 18 < l.length
        · exact absurd (.inr (.inl c)) hn
        · omega)
      have h4 : (10 : Nat) ^ 18 = 1000000000000000000 := by decide
      rw [h2]
      omega
    · cases h
theorem read_deed {z : Str} {w : Str} {ns : List Int} (h : readOf z = some (w, ns)) : isDeed (.str w :: ns.map PyData.int) = true := by
  unfold readOf at h
  cases e : wordsOf z with
  | nil => rw [e] at h; cases h
  | cons u r =>
    rw [e] at h
    have h : (if shapesL.lookup u = some ((r.length : Nat) : Int) then (r.mapM numOf).map fun ns => (u, ns) else none) = some (w, ns) := h
    split at h
    · rename_i hs
      cases e2 : r.mapM numOf with
      | none => rw [e2] at h; cases h
      | some ms =>
        rw [e2] at h
        have h := Option.some.inj h
        injection h with h1 h2
        subst h1 h2
        obtain ⟨hl, hall⟩ := mapM_some e2
        show (decide (shapesL.lookup u = some ((ms.map PyData.int).length : Int)) && (ms.map PyData.int).all numOk) = true
        rw [List.length_map, hl, hs, decide_eq_true rfl, Bool.true_and, List.all_eq_true]
        intro d hd
        obtain ⟨x, hx, rfl⟩ := List.mem_map.mp hd
        obtain ⟨i, hi⟩ := List.getElem?_of_mem hx
        have hi2 : i < r.length := by rw [← hl]; exact (List.getElem?_eq_some_iff.mp hi).1
        obtain ⟨y, hy1, hy2⟩ := hall i _ (List.getElem?_eq_getElem hi2)
        rw [hi] at hy2
        obtain rfl := Option.some.inj hy2
        exact decide_eq_true (num_rg hy1)
    · cases h
/-! str(part) of an int or a text -/
def rStrU : List V → Hp → VK → Prop := fun xs H Q => (∃ i, xs = [.int i] ∧ i.natAbs.log2 < 1920 ∧ Q (.str (toString i)) H) ∨ ∃ a, xs = [.str a] ∧ Q (.str a) H
theorem call_strU {X : Cx} : CallR X (.type "str") rStrU := fun pins s σ H xs us Q I rx h => by
  rcases h with h | h
  · exact call_str_int pins s σ H xs us Q I rx h
  · exact SkE.call_str_str pins s σ H xs us Q I rx h
def rIntS : List V → Hp → VK → Prop := fun xs H Q => ∃ a n, xs = [.str a] ∧ PySem.intText? a = some n ∧ a.length ≤ 640 ∧ Q (.int n) H
theorem call_intS {X : Cx} : CallR X (.type "int") rIntS := call_int_str
def rNotSign : R2 := fun x y H Q => ∃ (c : Nat) (z : Str), x = .str ⟨#[c]⟩ ∧ y = .str z ∧ Q (.bl (!decide (c ∈ z.cps.toList))) H
theorem op_notSign {X : Cx} : OpR X (compareOp .NotIn) rNotSign := op_notIn_sign
theorem figs_mem (c : Nat) : c ∈ ("0123456789" : Str).cps.toList ↔ 48 ≤ c ∧ c ≤ 57 := by
  have e : ("0123456789" : Str).cps.toList = [48, 49, 50, 51, 52, 53, 54, 55, 56, 57] := by decide +kernel
  rw [e]
  simp only [List.mem_cons, List.mem_nil_iff, or_false]
  omega
theorem z_iStr {te : TE} {σ : L2.St} {H : Hp} {R : It → Hp → Prop} (h : te σ H fun v H1 => ∃ x, v = .str x ∧ R (Its x) H1) : iStr te σ H R := h
theorem z_neB {K : PySem.W.Frag} {H : Hp} {Q : VK} {i j : Bool} (k : Q (.bl (!decide (i = j))) H) : rNeU K (.bl i) (.bl j) H Q := .inl ⟨rfl, by
  have e : decide (V.bl i = V.bl j) = decide (i = j) := by by_cases h : i = j <;> simp [h]
  rw [e]; exact k⟩
theorem vals_words {dd : Deed} {i : Nat} {x : V} (h : dd.vals[i]? = some x) : ∃ y, dd.words[i]? = some y ∧ (x = .str y ∨ ∃ n, x = .int n ∧ y = numT n ∧ n ∈ dd.args) := by
  cases i with
  | zero =>
    have h : some (V.str dd.name) = some x := h
    obtain rfl := Option.some.inj h
    exact ⟨dd.name, rfl, .inl rfl⟩
  | succ i =>
    have h : (dd.args.map V.int)[i]? = some x := h
    rw [List.getElem?_map] at h
    cases e : dd.args[i]? with
    | none => rw [e] at h; cases h
    | some n =>
      rw [e] at h
      obtain rfl := Option.some.inj h
      exact ⟨numT n, by show (dd.args.map numT)[i]? = _; rw [List.getElem?_map, e]; rfl, .inr ⟨n, rfl, rfl, List.mem_of_getElem? e⟩⟩
theorem join_snoc (sep y : Str) : ∀ (x : Str) (l : List Str), Txt.join sep ((x :: l) ++ [y]) = Txt.join sep (x :: l) ++ sep ++ y := fun x l => by
  refine TL.ext_tl ?_
  rw [TL.join_eq, TL.tl_join, TL.tl_append, TL.tl_append, TL.join_eq, TL.tl_join, List.map_append]
  have : ∀ (S p q : List Nat) (l : List (List Nat)), TL.joinL S ((p :: l) ++ [q]) = TL.joinL S (p :: l) ++ S ++ q := fun S p q l => by
    induction l generalizing p with
    | nil => simp [TL.joinL]
    | cons r l ih =>
      have e1 : TL.joinL S ((p :: r :: l) ++ [q]) = p ++ (S ++ TL.joinL S ((r :: l) ++ [q])) := rfl
      have e2 : TL.joinL S (p :: r :: l) = p ++ (S ++ TL.joinL S (r :: l)) := rfl
      rw [e1, ih, e2]; simp
  exact this _ _ _ _
theorem join_one (sep x : Str) : Txt.join sep [x] = x := TL.ext_tl (by rw [TL.join_eq, TL.tl_join]; rfl)
def optV : Option Int → V
  | none => .non
  | some x => .int x
theorem inV_opt : ∀ l : List (Option Int), inV .non (l.map optV) = decide (none ∈ l)
  | [] => rfl
  | none :: l => by
    have e : inV .non ((none :: l).map optV) = true := rfl
    rw [e, decide_eq_true (by simp)]
  | some x :: l => by
    have e : inV .non ((some x :: l).map optV) = inV .non (l.map optV) := by
      show (false || inV .non (l.map optV)) = _
      rw [Bool.false_or]
    rw [e, inV_opt l]
    by_cases h : none ∈ l <;> simp [h]
theorem flat_opt (l : List (Option Int)) : (l.map optV).all flatV = true := by
  rw [List.all_eq_true]
  intro v hv
  obtain ⟨o, _, rfl⟩ := List.mem_map.mp hv
  cases o <;> rfl
theorem opts_some {α : Type} {f : α → Option Int} : ∀ {l : List α}, none ∉ l.map f → ∃ ns, l.mapM f = some ns ∧ (l.map f).map optV = ns.map V.int
  | [], _ => ⟨[], rfl, rfl⟩
  | x :: l, h => by
    rw [List.map_cons, List.mem_cons, not_or] at h
    obtain ⟨ns, e1, e2⟩ := opts_some h.2
    cases e : f x with
    | none => exact absurd e.symm h.1
    | some y => exact ⟨y :: ns, by rw [List.mapM_cons, e, e1]; rfl, by rw [List.map_cons, List.map_cons, e, e2]; rfl⟩
theorem opts_none {α : Type} {f : α → Option Int} {l : List α} (h : none ∈ l.map f) : l.mapM f = none := by
  obtain ⟨x, hx, e⟩ := List.mem_map.mp h
  exact mapM_none hx e
theorem names_not {w : Str} {r : List Str} (h : w ∉ names8) : (if shapesL.lookup w = some ((r.length : Nat) : Int) then (r.mapM numOf).map fun ns => (w, ns) else none) = none := by
  rw [name_no h, if_neg (by intro z; cases z)]
theorem join_bound {a : Str} {ys : List Str} {n m : Nat} (h1 : ys.length ≤ m) (h2 : ∀ y ∈ ys, y.length ≤ n) (h3 : a.length ≤ 1) : (ys.map (·.length)).sum + ys.length * a.length ≤ m * n + m := by
  have h := sum_le (l := ys.map (·.length)) (n := n) fun x hx => by
    obtain ⟨y, hy, rfl⟩ := List.mem_map.mp hx
    exact h2 y hy
  rw [List.length_map] at h
  have h4 := Nat.mul_le_mul_right n h1
  have h5 := Nat.mul_le_mul h1 h3
  omega
theorem app_len (x y : Str) : (x ++ y).length = x.length + y.length := by rw [TL.len_tl, TL.tl_append, List.length_append, ← TL.len_tl, ← TL.len_tl]
theorem map_setS (l : List Str) (n : Nat) (v : Str) : (l.map V.str).set n (.str v) = (l.set n v).map V.str := by rw [List.map_set]
theorem dpt_intsE : ∀ l : List Int, dptAll (l.map PyData.int) = 0
  | [] => rfl
  | x :: l => by simp [dptAll, dpt, dpt_intsE l]
/-! tuples that are no deeds -/
theorem noDeed_more (dd : Deed) (d : PyData) (h : isDeed dd.items = true) : isDeed (dd.items ++ [d]) = false := by
  have e : dd.items ++ [d] = .str dd.name :: (dd.args.map PyData.int ++ [d]) := rfl
  rw [e]
  show (decide (shapesL.lookup dd.name = some ((dd.args.map PyData.int ++ [d]).length : Int)) && (dd.args.map PyData.int ++ [d]).all numOk) = false
  rw [deed_shape h, decide_eq_false (fun z => by
    have z := Option.some.inj z
    simp at z
    omega)]
  rfl
theorem name_s (dd : Deed) : shapesL.lookup (dd.name ++ "s") = none := by cases dd <;> (simp only [Deed.name]; decide +kernel)
theorem noDeed_name (dd : Deed) : isDeed (.str (dd.name ++ "s") :: dd.args.map PyData.int) = false := by
  show (decide (shapesL.lookup (dd.name ++ "s") = some ((dd.args.map PyData.int).length : Int)) && (dd.args.map PyData.int).all numOk) = false
  rw [name_s]; rfl
theorem noDeed_neg (w : Str) (r : List PyData) (i : Int) (h : i < 0) : isDeed (.str w :: .int i :: r) = false := by
  show (decide (shapesL.lookup w = some ((PyData.int i :: r).length : Int)) && (PyData.int i :: r).all numOk) = false
  have e : numOk (.int i) = false := decide_eq_false (by omega)
  rw [List.all_cons, e, Bool.false_and, Bool.and_false]
theorem items_dv {H : Hp} (dd : Deed) : DvAll H dd.vals dd.items := .cons (.str _) (DvAll.ints _)
theorem items_isI (dd : Deed) : ∀ d ∈ dd.items, isIS d = true := fun d hd => by
  rcases List.mem_cons.mp hd with rfl | hd
  · rfl
  · obtain ⟨x, _, rfl⟩ := List.mem_map.mp hd; rfl
end Mur
/-! sorted(xs, key=f) in a def's body: f's calls may lay new things, all that is tracked stays; keys: pairs of ints. -/
namespace Mur
open PySem hiding start
open PySem.Spec L2
open PyProof.Rows hiding St
open PySem.W (EachIs KeepsBut SortsAt dataKind AllAlike dataLe sortVals KeyedOut copyHeap sortingHeap)
section
variable {X : Cx} {pins : List (Addr × Obj)} {σ : L2.St} {H : Hp} {s s0 : Shared} {h' : Heap} {ch : List Addr}
/-- untracked things that were not there at s0 may be written -/
theorem inv_out {σ0 : L2.St} {H0 : Hp} {t' : Nat} (I0 : Inv X pins σ0 H0 s0) (I : Inv X pins σ H s) (n : ∀ b ∈ ch, H b = none) (new : ∀ b ∈ ch, s0.heap.objs.size ≤ b) (kp : ∀ b o, b ∉ ch → s.heap.get? b = some o → h'.get? b = some o) : Inv X pins σ H { s with heap := h', toks := t' } := by
  refine I.call (g' := s.gens) (d' := s.drawn) (ch := ch) ⟨fun b o e _ _ hx => kp b o hx e, fun b o e _ _ hx => ⟨o.slots, kp b o hx e⟩, fun _ _ _ n _ => n, fun b o e hx => ⟨o, kp b o hx e⟩, fun _ _ e => e, fun _ _ _ e => e, fun _ ps e => ⟨#[], by rw [e]; simp⟩⟩ (fun b u q => ?_) I.bare fun b hb => ⟨.inr (Nat.le_trans I0.sz (new b hb)), fun z => ?_, fun x c e z => ?_, fun p hp z => ?_⟩
  · refine (I.hok b u q).stay (fun c v hc r => kp c v (fun w => ?_) r) (fun _ q => q) fun _ _ q => q
    have := n c w
    rcases hc with rfl | hc
    · rw [q] at this; cases this
    · rw [hc] at this; cases this
  · have h1 := I0.lt
    rw [← z] at h1
    exact absurd (Nat.lt_of_lt_of_le h1 (new b hb)) (Nat.lt_irrefl _)
  · obtain ⟨v, o, ho, _⟩ := I0.cell x c e
    have h1 := Heap.lt_size ho
    rw [z] at h1
    exact absurd (Nat.lt_of_lt_of_le h1 (new b hb)) (Nat.lt_irrefl _)
  · have h1 := Heap.lt_size (I0.pin p hp).1
    rw [z] at h1
    exact absurd (Nat.lt_of_lt_of_le h1 (new b hb)) (Nat.lt_irrefl _)
/-- a thing that was not there at s0 is tracked from now on -/
theorem inv_track {σ0 : L2.St} {H0 : Hp} {a : Addr} {o : HO} (I0 : Inv X pins σ0 H0 s0) (I : Inv X pins σ H s) (n : H a = none) (new : s0.heap.objs.size ≤ a) (ok : ObjOk X.prog X.w (upd H a o) s.heap a o) : Inv X pins σ (upd H a o) s := by
  have ne : ∀ b u, H b = some u → b ≠ a := fun b u e z => by rw [z, n] at e; cases e
  have lt : ∀ b (u : Obj), s0.heap.get? b = some u → b ≠ a := fun b u e z => by
    have h1 := Heap.lt_size e
    rw [z] at h1
    exact absurd (Nat.lt_of_lt_of_le h1 new) (Nat.lt_irrefl _)
  have lt0 : ∀ b (u : Obj), X.s_0.heap.get? b = some u → b ≠ a := fun b u e z => by
    have h1 := Heap.lt_size e
    rw [z] at h1
    exact absurd (Nat.lt_of_lt_of_le h1 (Nat.le_trans I0.sz new)) (Nat.lt_irrefl _)
  refine ⟨I.ok, I.os, I.bare, ⟨I.base.keep, I.base.slot, fun b u e q hx => by rw [upd_ne (lt0 b u e)]; exact I.base.free b u e q hx, I.base.there, fun b xs e => ?_, fun b u v e => ?_, fun b ps e => ?_⟩, I.loc, I.cell, ?_, fun x c e => ?_, fun p hp => ?_, fun b u e => ?_, I.len⟩
  · have := I.base.tups b xs e
    rw [upd_ne (ne b _ this)]; exact this
  · have := I.base.frzs b u v e
    rw [upd_ne (ne b _ this)]; exact this
  · obtain ⟨more, this⟩ := I.base.tbls b ps e
    exact ⟨more, by rw [upd_ne (ne b _ this)]; exact this⟩
  · rw [upd_ne (fun z => by
      have h1 := I0.lt
      rw [z] at h1
      exact absurd (Nat.lt_of_lt_of_le h1 new) (Nat.lt_irrefl _))]
    exact I.free
  · obtain ⟨v, o, ho, _⟩ := I0.cell x c e
    rw [upd_ne (lt c o ho)]; exact I.freeC x c e
  · obtain ⟨e1, e2, e3⟩ := I.pin p hp
    refine ⟨e1, ?_, e3⟩
    rw [upd_ne (lt p.1 _ (I0.pin p hp).1)]; exact e2
  · by_cases c : b = a
    · subst c
      rw [upd_same] at e
      obtain rfl := Option.some.inj e
      exact ok
    · rw [upd_ne c] at e
      exact (I.hok b u e).stay (fun c v _ r => r) (fun c q => by rw [upd_ne (ne c _ q)]; exact q) fun c xs q => by rw [upd_ne (ne c _ q)]; exact q
/-- what the keys read as -/
def kd (g : Int → Int × Int) (n : Int) : PyData := .tuple [.int (g n).1, .int (g n).2]
def KeyV (H : Hp) (g : Int → Int × Int) (v : Value) (n : Int) : Prop := ∃ t, v = .ref t ∧ H t = some (.tup [.int (g n).1, .int (g n).2])
theorem KeyV.reads {g : Int → Int × Int} {P : Program} {w : World} {h : Heap} (ok : HOk P w H h) {v : Value} {n : Int} (k : KeyV H g v n) : ∃ as, Reads h v (kd g n) as := by
  obtain ⟨t, rfl, ht⟩ := k
  obtain ⟨_, its, r, o, ho, hc, e, hd⟩ := ok t _ ht
  cases r with
  | cons r1 r =>
    cases r with
    | cons r2 r =>
      cases r
      obtain ⟨t1, rfl⟩ := r1
      obtain ⟨t2, rfl⟩ := r2
      exact ⟨_, .tuple ho hc hd (.cons (.int _ _) (.cons (.int _ _) .nil))⟩
theorem stk_ne (I : Inv X pins σ H s) {a : Addr} (h : s.heap.objs.size ≤ a) : a ∉ frs X.stack := fun z => by
  rcases List.mem_cons.mp (I.stkSub a z) with e | e
  · have h1 := I.lt
    rw [← e] at h1
    exact absurd (Nat.lt_of_lt_of_le h1 h) (Nat.lt_irrefl _)
  · exact I.nofs h e
theorem kd_alike (g : Int → Int × Int) (ns : List Int) : AllAlike (ns.map (kd g)) := fun d hd d' hd' => by
  obtain ⟨n, _, rfl⟩ := List.mem_map.mp hd
  obtain ⟨m, _, rfl⟩ := List.mem_map.mp hd'
  simp [kd, PySem.W.alike, PySem.W.alikeAll]
theorem kd_sortable (g : Int → Int × Int) (ns : List Int) : PySem.W.Sortable (ns.map (kd g)) := .inl fun d hd => by
  obtain ⟨n, _, rfl⟩ := List.mem_map.mp hd
  exact ⟨_, _, rfl⟩
theorem each_to_map {α β γ : Type} {R : α → γ → Prop} (f : β → γ) : ∀ {as : List α} {bs : List β}, EachIs (fun a b => R a (f b)) as bs → EachIs R as (bs.map f)
  | _, _, .nil => .nil
  | _, _, .cons h t => .cons h (each_to_map f t)
theorem each_ints : ∀ {vs : List Value} {ns : List Int}, IntsAre vs ns → EachIs (fun v n => ∃ t, v = Value.int n t) vs ns
  | _, _, .nil => .nil
  | _, _, .cons _ t h => .cons ⟨t, rfl⟩ (each_ints h)
theorem ints_each : ∀ {vs : List Value} {ns : List Int}, EachIs (fun v n => ∃ t, v = Value.int n t) vs ns → IntsAre vs ns
  | _, _, .nil => .nil
  | _, _, .cons ⟨t, e⟩ h => by rw [e]; exact .cons _ t (ints_each h)
/-- sorted(l, key=f) -/
theorem sortK_run {l f : Addr} {ns : List Int} {g : Int → Int × Int} {Q : VK} (I : Inv X pins σ H s) (hs : SqL X.K H l (ns.map V.int)) (hu : X.A.units + 64 < cLine)
    (turn : ∀ (n : Int) (t : Tok) (H1 : Hp) (s1 : Shared), n ∈ ns → Same H H1 → Inv X pins σ H1 s1 → wpAny (model X.prog X.w) X.A.in1.in1 (call (.ref f) [.int n t]) (CE X.stack X.prog X.w H1 s1 (fun v H2 => Same H1 H2 ∧ ∃ p, v = .ref p ∧ H2 p = some (.tup [.int (g n).1, .int (g n).2]))) (fun _ _ => False) s1)
    (q : ∀ H1 p, Same H H1 → H1 p = none → Q (.ref p) (upd H1 p (.lst ((ns.mergeSort (dataLe false (kd g))).map V.int)))) :
    wpAny (model X.prog X.w) X.A (call (.builtin "sorted") [.ref l] [(Str.ofString "key", .ref f)]) (EP X pins σ Q) X.xe s := by
  obtain ⟨its, rv, hl, hz⟩ := I.list hs
  have hi := rv.ints
  rw [List.length_map] at hz
  have hil : its.length = ns.length := hi.length
  have hZ : its.length ≤ sizeLine := by omega
  refine PySem.W.sorted_of_sort hl.isList hZ (PyProof.Rows.ksk_s1 _ _) (fun _ => PyProof.Rows.ksk_l1 _ _) fun E' => ?_
  rw [PyProof.Rows.ksk_t1]
  have ho := PySem.W.copyHeap_at s.heap its
  have ha : s.heap.objs.size + 1 < (copyHeap s.heap its).objs.size := Heap.lt_size ho
  have sza : s.heap.objs.size ≤ s.heap.objs.size + 1 := Nat.le_succ _
  have lta : ∀ b o, s.heap.get? b = some o → b ≠ s.heap.objs.size + 1 := fun b o e => Nat.ne_of_lt (Nat.lt_succ_of_lt (Heap.lt_size e))
  have old : ∀ b o, s.heap.get? b = some o → (sortingHeap (copyHeap s.heap its) (s.heap.objs.size + 1) its).get? b = some o := fun b o e => PySem.W.sortingHeap_old (lta b o e) (PySem.W.copyHeap_old e)
  generalize hA : s.heap.objs.size + 1 = a at *
  obtain ⟨e1, ho1⟩ : ∃ e1, ((copyHeap s.heap its).update a (Obj.mapSeq fun _ => (#[] : Array Value))).get? a = some (seqObj "list" #[] e1) := ⟨_, get?_update_seq ho fun _ => #[]⟩
  have hkS : (((copyHeap s.heap its).update a (Obj.mapSeq fun _ => (#[] : Array Value))).push (seqObj "tuple" its.toArray 0)).objs.size = (copyHeap s.heap its).objs.size + 1 := by rw [size_push', Heap.size_update]
  unfold PyProof.Rows.ksk_tree
  refine wpAny_bind (listItems_at ho rfl ?_)
  refine wpAny_bind (listUpdate_at ho rfl ?_ (by rw [List.size_toArray]; exact hZ) (Nat.zero_le _))
  refine wpAny_bind (seqEpoch_at ho1 rfl ?_)
  refine wpAny_bind (wpAny_newTuple ?_ (by show its.length ≤ _; exact hZ))
  refine wpAny_bind (wpAny_newList ?_ (Nat.zero_le _))
  refine wpAny_holding ?_
  show wpAny (model X.prog X.w) X.A.in1.in1 (PyProof.Rows.ksk_rest a (.ref f) false its.toArray e1 (.ref (((copyHeap s.heap its).update a (Obj.mapSeq fun _ => (#[] : Array Value))).push (seqObj "tuple" its.toArray 0)).objs.size)) _ _ { s with heap := sortingHeap (copyHeap s.heap its) a its }
  have nk0 : (sortingHeap (copyHeap s.heap its) a its).get? (((copyHeap s.heap its).update a (Obj.mapSeq fun _ => (#[] : Array Value))).push (seqObj "tuple" its.toArray 0)).objs.size = some (seqObj "list" #[] 0) := Heap.get?_push_size _ rfl
  have na0 : (sortingHeap (copyHeap s.heap its) a its).get? a = some (seqObj "list" #[] e1) := Heap.get?_push_of_some _ (Heap.get?_push_of_some _ ho1)
  have szk : s.heap.objs.size ≤ (((copyHeap s.heap its).update a (Obj.mapSeq fun _ => (#[] : Array Value))).push (seqObj "tuple" its.toArray 0)).objs.size := by
    rw [hkS]
    have : a < (copyHeap s.heap its).objs.size := ha
    exact Nat.le_of_lt (Nat.lt_of_le_of_lt sza (Nat.lt_succ_of_lt this))
  have hka : (((copyHeap s.heap its).update a (Obj.mapSeq fun _ => (#[] : Array Value))).push (seqObj "tuple" its.toArray 0)).objs.size ≠ a := by
    rw [hkS]
    exact Nat.ne_of_gt (Nat.lt_succ_of_lt ha)
  generalize (((copyHeap s.heap its).update a (Obj.mapSeq fun _ => (#[] : Array Value))).push (seqObj "tuple" its.toArray 0)).objs.size = kS at nk0 szk hka ⊢
  have I1 : Inv X pins σ H { s with heap := sortingHeap (copyHeap s.heap its) a its } := I.kept (t' := s.toks) old
  have nHa : H a = none := I.hok.fresh sza
  have nHk : H kS = none := I.hok.fresh szk
  have fra := stk_ne I sza
  have frk := stk_ne I szk
  unfold PyProof.Rows.ksk_rest
  refine wpAny_bind (wpAny_rule ?_)
  rw [List.forIn_toArray]
  refine wpAny_bind (PyProof.Rows.ksk_fold (fun i s' => ∃ H1 kA e, Same H H1 ∧ Inv X pins σ H1 s' ∧ H1 kS = none ∧ H1 a = none ∧ s'.heap.get? kS = some (seqObj "list" kA e) ∧ s'.heap.get? a = some (seqObj "list" #[] e1) ∧ EachIs (KeyV H1 g) kA.toList (ns.take i)) its 0 _
    ⟨H, #[], 0, Same.refl H, I1, nHk, nHa, nk0, na0, by rw [List.take_zero]; exact EachIs.nil⟩ ?step ?done)
  case step =>
    rintro j x s' hx ⟨H1, kA, e, sm, I', n1k, n1a, nk, na, hk⟩
    simp only [Nat.zero_add] at hk ⊢
    have hj : j < its.length := (List.getElem?_eq_some_iff.mp hx).1
    obtain ⟨n, hn⟩ : ∃ n, ns[j]? = some n := ⟨_, List.getElem?_eq_getElem (by omega)⟩
    obtain ⟨t, ht⟩ := hi.get j n hn
    rw [ht] at hx
    obtain rfl := Option.some.inj hx
    have hz2 : kA.size ≤ its.length := by
      have h1 := hk.length
      rw [Array.length_toList, List.length_take] at h1
      omega
    refine wpAny_bind (wpAny_attempt (wpAny_mono (turn n t H1 s' (List.mem_of_getElem? hn) sm I') (fun v s2 he => ?_) fun _ _ hF => hF.elim))
    obtain ⟨v', H2, os, bare, un, hok, r, sm2, p, rfl, hp⟩ := he
    obtain ⟨hh, g', d, t', os'⟩ := s2
    obtain rfl : os' = s'.os := os
    have I2 := I'.call (h' := hh) (g' := g') (d' := d) (t' := t') (ch := []) un hok bare (fun b z => absurd z (by simp))
    obtain rfl : v = Value.ref p := r
    have nk2 : hh.get? kS = some (seqObj "list" kA e) := un.keep kS _ nk n1k frk (by simp)
    have na2 : hh.get? a = some (seqObj "list" #[] e1) := un.keep a _ na n1a fra (by simp)
    have n2k : H2 kS = none := un.free kS _ nk n1k (by simp)
    have n2a : H2 a = none := un.free a _ na n1a (by simp)
    try dsimp only
    have s1 := Heap.SameBut.update hh kS (Obj.mapSeq (·.push (Value.ref p)))
    obtain ⟨c2, hc2⟩ : ∃ c2, (hh.update kS (Obj.mapSeq (·.push (Value.ref p)))).get? kS = some (seqObj "list" (kA.push (Value.ref p)) c2) := ⟨_, get?_update_seq nk2 (·.push (Value.ref p))⟩
    refine wpAny_bind (listUpdate_at nk2 rfl ?_ (Nat.le_trans hz2 hZ) (Nat.le_trans (Nat.le_of_eq (Array.size_push ..)) (Nat.succ_le_succ (Nat.le_trans hz2 hZ))))
    have ek : ns.take (j + 1) = ns.take j ++ [n] := by rw [List.take_add_one, hn]; simp
    have ea : (kA.push (Value.ref p)).toList = kA.toList ++ [Value.ref p] := by simp
    refine wpAny_pure ⟨rfl, H2, kA.push (Value.ref p), c2, sm.trans sm2, inv_out (ch := [kS]) I I2 (fun b hb => ?_) (fun b hb => ?_) (fun b o hb e => (s1.2 b (fun z => hb (by rw [z]; simp))).trans e), n2k, n2a, hc2, (s1.2 a hka.symm).trans na2, ?_⟩
    · rw [List.mem_singleton.mp hb]; exact n2k
    · rw [List.mem_singleton.mp hb]; exact szk
    · rw [ea, ek]
      exact PySem.W.each_snoc ⟨p, rfl, hp⟩ (hk.mono fun v n ⟨t, e1, e2⟩ => ⟨t, e1, sm2 _ _ e2⟩)
  case done =>
    rintro s' ⟨H1, kA, e, sm, I', n1k, n1a, nk, na, hk⟩
    rw [Nat.zero_add, List.take_of_length_le (by omega)] at hk
    have hsz : kA.size = its.length := by
      have h1 := hk.length
      rw [Array.length_toList] at h1
      omega
    have hR : EachIs (fun v d => ∃ as, Reads s'.heap v d as) kA.toList (ns.map (kd g)) := by
      exact each_to_map (kd g) (hk.mono fun v n k => k.reads I'.hok)
    try dsimp only
    refine wpAny_bind (listItems_at nk rfl ?_)
    refine PySem.W.keyH_end (κ := dataKind s'.heap (ns.map (kd g))) (h₁ := hidT s'.heap (fun b => if b = kS then some (.tbl #[]) else none)) (fun b o _ e => (of_hidT e).1) ?_ nk na hka (SortsAt.data (s := s') hR (kd_alike g ns) (kd_sortable g ns) (fun d hd => ?_)) hsz hZ fun h3 tk3 c k3 n3 => ?_
    · cases q : (hidT s'.heap (fun b => if b = kS then some (.tbl #[]) else none)).get? kS with
      | none => rfl
      | some o =>
        have := (of_hidT q).2
        rw [if_pos rfl] at this; cases this
    · obtain ⟨n, _, rfl⟩ := List.mem_map.mp hd
      have hd : (kd g n).depth ≤ 4 := by simp [kd, PyData.depth, PyData.depthAll]
      show X.A.units + 2 + (kd g n).depth < cLine
      omega
    · have ko : KeyedOut false (ns.map (kd g)) its (sortVals (dataKind s'.heap (ns.map (kd g))) false kA.toList its) := ⟨s'.heap, kA.toList, kd_alike g ns, rfl, hR⟩
      have hE := ints_each (PySem.W.keyedOut_each (kd g) ko (each_ints hi))
      have kp : ∀ b o, b ∉ [kS, a] → s'.heap.get? b = some o → h3.get? b = some o := fun b o hb e => by
        simp only [List.mem_cons, List.not_mem_nil, or_false, not_or] at hb
        exact k3 b o hb.2 (hidT_get e (if_neg hb.1))
      have J := inv_out (t' := tk3) (ch := [kS, a]) I I' (fun b hb => by
        simp only [List.mem_cons, List.not_mem_nil, or_false] at hb
        rcases hb with rfl | rfl
        · exact n1k
        · exact n1a) (fun b hb => by
        simp only [List.mem_cons, List.not_mem_nil, or_false] at hb
        rcases hb with rfl | rfl
        · exact szk
        · exact sza) kp
      refine ⟨rfl, .ref a, _, inv_track (o := .lst ((ns.mergeSort (dataLe false (kd g))).map V.int)) I J n1a sza ⟨?_, _, _, vals_of_ints hE, n3⟩, rfl, q H1 a sm n1a⟩
      rw [List.length_map, List.length_mergeSort]
      exact hz
end
/-! ### a lambda handed to sorted -/
section
open LamX NdefX
theorem inv_pin {X : Cx} {pins : List (Addr × Obj)} {σ : L2.St} {H : Hp} {s : Shared} {f : Addr} {o : Obj} (I : Inv X pins σ H s) (e : s.heap.get? f = some o) (n : H f = none) (nf : f ∉ frs X.stack) (hd : ∀ v, o.data ≠ .cell v) (hq : ∀ es ep, o.data ≠ .dict es ep) : Inv X ((f, o) :: pins) σ H s := by
  refine ⟨I.ok, I.os, I.bare, I.base, I.loc, I.cell, I.free, I.freeC, fun p hp => ?_, I.hok, I.len⟩
  rcases List.mem_append.mp hp with z | z
  · exact I.pin p (List.mem_append_left _ z)
  · rcases List.mem_cons.mp z with rfl | z
    · refine ⟨e, n, fun z => ?_, fun z => nf ?_, hd⟩
      · obtain ⟨m, ⟨o2, es, ep, h2, d2, _⟩, _⟩ := I.loc
        have z : f = X.env.locals := z
        rw [← z, e] at h2
        obtain rfl := Option.some.inj h2
        exact hq _ _ d2
      · rcases I.ok.stk with k | ⟨k, _⟩
        · rw [k]; exact z
        · rw [k]
          unfold frs
          rw [List.filterMap_cons]
          split
          · exact z
          · exact List.mem_cons_of_mem _ z
    · exact I.pin p (List.mem_append_right _ z)
theorem inv_unpin {X : Cx} {p : Addr × Obj} {pins : List (Addr × Obj)} {σ : L2.St} {H : Hp} {s : Shared} (I : Inv X (p :: pins) σ H s) : Inv X pins σ H s :=
  ⟨I.ok, I.os, I.bare, I.base, I.loc, I.cell, I.free, I.freeC, fun q hq => I.pin q (by
    rcases List.mem_append.mp hq with z | z
    · exact List.mem_append_left _ z
    · exact List.mem_append_right _ (List.mem_cons_of_mem _ z)), I.hok, I.len⟩
/-- a lambda's words -/
abbrev lamNF (q : Str) (params : Arguments) (scope : Scope) (cl : List (Str × Addr)) (c' : Addr) : NF := ⟨"<lambda>", q, params, [], scope, cl, c'⟩
/-- a lambda is called -/
theorem lam_run {P : Program} {w : World} {K : PySem.W.Frag} {mg : Str → Option Value} {base : Heap} {CX : CXT} {k : Nat} {f c' : Addr} {q : Str} {params : Arguments} {body : Expr} {scope : Scope} {cl : List (Str × Addr)} {pm ctv : Value} {N ps fr : List Str} {A : Around} {outer : List Env} {s : Shared} {H : Hp} {us : List Value} {vs : List V} {ws : List (Option V)} {Q : VK} {E : XK} {tb : TE}
    (S : NScope N ps fr scope) (hr : Room (k + 1) A) (e0 : Env0 P w K mg base A outer s H) (hf : s.heap.get? f = some (PySem.W.kla_obj "<lambda>" q params body scope cl pm c' ctv)) (hc : H c' = some (CodeO c' q)) (C : CellsAt cl fr ws s.heap H) (r : Vals vs us) (hl : vs.length = ps.length)
    (hbind : bindArgs (PySem.W.kla_fn "<lambda>" q params body scope cl pm (.ref c') ctv) ⟨us, []⟩ = pure (ps.zip us))
    (hbody : Room k (A.deeper (envF (lamNF q params scope cl c') f s.heap.objs.size)) → PE (ncx CX P w K mg base N (lamNF q params scope cl c') f A outer s H E) body tb) (h : tb (startF N vs ws) H Q) :
    codeAny (model P w) A (.call (.ref f) ⟨us, []⟩) (CR CX outer P w H s Q E) s := by
  have lim : s.heap.NoLimit := e0.mod.nolimit.keeps fun b o e => (e0.bs b o e).1
  refine PySem.W.kla_callFunE hr.depth hf rfl S.co S.gen rfl (codeO_at e0.hok hc) ?_
  rw [hbind]
  refine wpAny_pure (wpAny_newFunctionEnv S.nocell (fun ⟨n, _⟩ hy => S.par n (List.of_mem_zip hy).1) (fun h₁ hns hsb => ⟨lim.fresh _ hsb, ?_⟩) S.kind)
  show codeAny _ _ (.expr body (envF (lamNF q params scope cl c') f s.heap.objs.size)) _ _
  have kp : ∀ b o, s.heap.get? b = some o → h₁.get? b = some o := fun b o e => hsb.extBut b o (Nat.ne_of_lt (Heap.lt_size e)) (Heap.get?_push_of_some _ e)
  have I : Inv (ncx CX P w K mg base N (lamNF q params scope cl c') f A outer s H E) [] (startF N vs ws) H { s with heap := h₁, toks := s.toks + (ps.zip us).length } := inv_startN (F := lamNF q params scope cl c') S hr.hd e0 hl r C hns kp
  refine PySem.W.kla_codeExpr (wpAny_mono ((hbody (hr.deeper _)).run [] _ _ H Q I h) (fun v s' hq => ?_) fun e s' hq => hq)
  obtain ⟨w', H', J', rv, q⟩ := hq
  exact ⟨w', H', J'.os, J'.bare, J'.base, J'.hok, rv, q⟩
theorem passN {P : Program} {w : World} {K : PySem.W.Frag} {mg : Str → Option Value} {base : Heap} {N : List Str} {F : NF} {f : Addr} {A : Around} {outer : List Env} {s : Shared} {H : Hp} {E : XK} : Passes (L2.CX P w) (ncx (L2.CX P w) P w K mg base N F f A outer s H E) E := passes_call (takes_of rfl rfl rfl rfl) fun _ _ _ _ h => h
theorem ndefB_ok {sc nsc : Scope} {fr : List Str} (h : NdefX.ndefB sc nsc fr = true) : (∀ y ∈ nsc.names, y.2 = .free → sc.names.lookup y.1 = some .cell ∨ sc.names.lookup y.1 = some .free) ∧ ∀ y ∈ fr, (y, NameKind.free) ∈ nsc.names := by
  unfold NdefX.ndefB at h
  simp only [Bool.and_eq_true, Bool.or_eq_true, Bool.not_eq_true', decide_eq_true_eq, decide_eq_false_iff_not, List.all_eq_true] at h
  refine ⟨fun y hy e => ?_, h.2⟩
  rcases h.1 y hy with (z | z) | z
  · exact absurd e z
  · exact .inl z
  · exact .inr z
/-- sorted(e, key=lambda x: ..) of ints, by pairs of ints -/
def tSortLam (K : PySem.W.Frag) (T : List (Addr × Str)) (N : List Str) (js : List Nat) (te tb : TE) : TE := fun σ H Q => te σ H fun v H1 => ∃ (l : Addr) (ns : List Int) (g : Int → Int × Int), v = .ref l ∧ Tabs T H1 ∧ ∀ H2, ExtN H1 H2 → Tabs T H2 →
  SqL K H2 l (ns.map V.int) ∧ (∀ n ∈ ns, ∀ H3, Same H2 H3 → tb (startF N [.int n] (js.map (slotAt σ))) H3 fun v H4 => Same H3 H4 ∧ ∃ p, v = .ref p ∧ H4 p = some (.tup [.int (g n).1, .int (g n).2])) ∧
  ∀ H3 p, Same H2 H3 → H3 p = none → Q (.ref p) (upd H3 p (.lst ((ns.mergeSort (PySem.W.dataLe false (kd g))).map V.int)))
theorem pe_sortLam {X : Cx} {T : List (Addr × Str)} {c P : Addr} {k : Nat} {e : Expr} {te tb : TE} {params : Arguments} {body : Expr} {scope : Scope} {x : Str} {N fr : List Str} {js : List Nat} {p lpos kpos pos : Pos}
    (hg : Gl X "sorted") (hm : X.mg "sorted" = none) (ha : PA X [e] (tCons te tNil)) (hr : Room (k + 4) X.A) (TB : TabB X.base X.mg c P) (hcode : X.env.code = .ref c) (hmT : (P, X.env.qual ++ "<lambda>") ∈ T) (hu : ∀ p ∈ T, p.1 = P → p.2 = X.env.qual ++ "<lambda>")
    (S : NScope N [x] fr scope) (hB : NdefX.ndefB X.env.scope scope fr = true) (hjs : js.map (fun j => X.N[j]?) = fr.map some)
    (hdef : defaultsOf params X.env = ([], [])) (hbind : ∀ (q : Str) (cl : List (Str × Addr)) (pm cv ctv u : Value), bindArgs (PySem.W.kla_fn "<lambda>" q params body scope cl pm cv ctv) ⟨[u], []⟩ = pure ([x].zip [u]))
    (hbody : ∀ (A : Around) (outer : List Env) (s : Shared) (H : Hp) (f : Addr) (q : Str) (cl : List (Str × Addr)) (c' : Addr), Room k (A.deeper (envF (lamNF q params scope cl c') f s.heap.objs.size)) → PE (ncx (L2.CX X.prog X.w) X.prog X.w X.K X.mg X.base N (lamNF q params scope cl c') f A outer s H (fun _ _ _ => False)) body tb)
    (hst : backTo pos (starEach [e] X.env) = (false, eval e X.env) :: backTo pos (starEach [] X.env) := by rfl) (hpl : (backTo pos (starEach [e] X.env)).any (·.1) = false := by rfl)
    (hall : (backToKw pos (keywordEach [⟨some "key", .Lambda params body scope lpos, kpos⟩] X.env)).all (·.1.isSome) = true := by rfl) (hnone : (backToKw pos (keywordEach [⟨some "key", .Lambda params body scope lpos, kpos⟩] X.env)).any (·.1.isNone) = false := by rfl) :
    PE X (.Call (.Name "sorted" p) [e] [⟨some "key", .Lambda params body scope lpos, kpos⟩] pos) (tSortLam X.K T N js te tb) := by
  obtain ⟨hfree, hfr⟩ := ndefB_ok hB
  refine ⟨fun pins s σ H Q I h => ?_⟩
  refine wpAny_Call_Name_kw (ld_blt I hg hm rfl ?_ (by decide) (by decide))
  let R0 : List V → Hp → Prop := fun vs H1 => match vs with
    | [v] => ∃ (l : Addr) (ns : List Int) (g : Int → Int × Int), v = .ref l ∧ Tabs T H1 ∧ ∀ H2, ExtN H1 H2 → Tabs T H2 →
      SqL X.K H2 l (ns.map V.int) ∧ (∀ n ∈ ns, ∀ H3, Same H2 H3 → tb (startF N [.int n] (js.map (slotAt σ))) H3 fun v H4 => Same H3 H4 ∧ ∃ p, v = .ref p ∧ H4 p = some (.tup [.int (g n).1, .int (g n).2])) ∧
      ∀ H3 p, Same H2 H3 → H3 p = none → Q (.ref p) (upd H3 p (.lst ((ns.mergeSort (PySem.W.dataLe false (kd g))).map V.int)))
    | _ => False
  refine PyProof.Rows.callWith_kw (thn (ha.run pos pins s σ H R0 I h) fun us s1 ⟨vs, H1, I1, r1, q1⟩ => ?_) hst hpl hall hnone
  obtain ⟨v, l, ns, g, rfl, rfl, hT, q⟩ : ∃ (v : V) (l : Addr) (ns : List Int) (g : Int → Int × Int), vs = [v] ∧ v = .ref l ∧ Tabs T H1 ∧ ∀ H2, ExtN H1 H2 → Tabs T H2 →
      SqL X.K H2 l (ns.map V.int) ∧ (∀ n ∈ ns, ∀ H3, Same H2 H3 → tb (startF N [.int n] (js.map (slotAt σ))) H3 fun v H4 => Same H3 H4 ∧ ∃ p, v = .ref p ∧ H4 p = some (.tup [.int (g n).1, .int (g n).2])) ∧
      ∀ H3 p, Same H2 H3 → H3 p = none → Q (.ref p) (upd H3 p (.lst ((ns.mergeSort (PySem.W.dataLe false (kd g))).map V.int))) := by
    match vs, q1 with
    | [v], ⟨l, ns, g, e, hT, q⟩ => exact ⟨v, l, ns, g, rfl, e, hT, q⟩
  obtain rfl := Vals.ref1 r1
  have hfree2 : ∀ y ∈ scope.names, y.2 = .free → ∃ c, X.env.cells.lookup y.1 = some c := fun y hy e => (hfree y hy e).elim (fun z => I1.ok.has _ (.inl z)) fun z => I1.ok.has _ (.inr z)
  refine PyProof.Rows.kwAll_cons (lam_make2 I1 TB hcode hmT hu hT hdef hfree2 fun f c' pm ctv H2 s2 I2 eN T2 hf hfn hfr2 hco => PyProof.Rows.kwAll_nil ?_)
  obtain ⟨hsq, hturn, hq⟩ := q H2 eN T2
  have I2' := inv_pin I2 hf hfn hfr2 (fun v z => by cases z) (fun es ep z => by cases z)
  show wpAny (model X.prog X.w) X.A (call (.builtin "sorted") [.ref l] [(Str.ofString "key", .ref f)]) _ _ s2
  refine wpAny_mono (sortK_run (g := g) I2' hsq hr.units (fun n t H3 s3 hn sm I3 => ?_) hq) (fun v s' ⟨v', H', J, r, q⟩ => ⟨v', H', inv_unpin J, r, q⟩) fun _ _ e => e
  have hf3 := (I3.pin (f, _) (List.mem_append_right _ List.mem_cons_self)).1
  have hr3 : Room (k + 1) X.A.in1.in1 := (Room.mono hr (by omega) : Room (k + 3) X.A).in1.in1
  refine wpAny_call (codeAny_mono (lam_run (CX := L2.CX X.prog X.w) (E := fun _ _ _ => False) (vs := [.int n]) (us := [.int n t]) S hr3 I3.env0.in1.in1 hf3 (sm _ _ hco) (cells_of I3 (Caps.made I3.ok hfree hfr hjs)) (.cons ⟨t, rfl⟩ .nil) rfl (hbind _ _ _ _ _ _) (fun hr' => hbody _ _ _ _ _ _ _ _ hr') (hturn n hn H3 sm)) fun r s' hq => ?_)
  cases r with
  | error e =>
    obtain ⟨_, _, _, _, _, _, _, _, _, _, _, _, z⟩ := hq
    exact z.elim
  | ok fl =>
    cases fl with
    | ret u => exact hq
    | next => exact False.elim hq
    | brk => exact False.elim hq
    | cont => exact False.elim hq
end
theorem z_sortLam {K : PySem.W.Frag} {T : List (Addr × Str)} {N : List Str} {js : List Nat} {te tb : TE} {σ : L2.St} {H : Hp} {Q : VK} (h : te σ H fun v H1 => ∃ (l : Addr) (ns : List Int) (g : Int → Int × Int), v = .ref l ∧ LamX.Tabs T H1 ∧ ∀ H2, LamX.ExtN H1 H2 → LamX.Tabs T H2 →
  SqL K H2 l (ns.map V.int) ∧ (∀ n ∈ ns, ∀ H3, Same H2 H3 → tb (NdefX.startF N [.int n] (js.map (NdefX.slotAt σ))) H3 fun v H4 => Same H3 H4 ∧ ∃ p, v = .ref p ∧ H4 p = some (.tup [.int (g n).1, .int (g n).2])) ∧
  ∀ H3 p, Same H2 H3 → H3 p = none → Q (.ref p) (upd H3 p (.lst ((ns.mergeSort (PySem.W.dataLe false (kd g))).map V.int)))) : tSortLam K T N js te tb σ H Q := h
/-! a list != []; dicts of ints alone -/
def rNeNilK (K : PySem.W.Frag) : R2 := fun x y H Q => ∃ a b xs, x = .ref a ∧ y = .ref b ∧ SqL K H a xs ∧ SqL K H b [] ∧ Q (.bl (!decide (xs.length = 0))) H
theorem k_neNilK {X : Cx} (K : PySem.W.Frag) (hu : X.A.units + 1 < cLine) (hK : X.K = K := by rfl) : OpR X (compareOp .NotEq) (rNeNilK K) := by
  subst hK
  intro pins s σ H x y v u Q I rx ry h
  obtain ⟨a, b, xs, rfl, rfl, ha, hb, q⟩ := h
  cases (show v = Value.ref a from rx)
  cases (show u = Value.ref b from ry)
  obtain ⟨us, r1, p1, _⟩ := I.list ha
  obtain ⟨ws, r2, p2, _⟩ := I.list hb
  have hw : ws.toArray.size = 0 := by rw [List.size_toArray, ← r2.length]; rfl
  have hx : us.toArray.size = xs.length := by rw [List.size_toArray, ← r1.length]
  by_cases e : xs.length = 0
  · rw [decide_eq_true e] at q
    refine SeqAt.RcNeAt.lists (e := fun _ => true) p1.isList p2.isList (by rw [hw, hx, e]) (by omega) (fun j h1 h2 => absurd h2 (by rw [hw]; omega)) X.prog X.w X.xe _ ⟨.bl false, H, I, ?_, q⟩
    rw [hx, e]
    rfl
  · rw [decide_eq_false e] at q
    exact SeqAt.RcNeAt.lists_lengths p1.isList p2.isList (by rw [hw, hx]; simpa using e) (by omega) X.prog X.w X.xe _ ⟨.bl true, H, I, rfl, q⟩
def KeysAt (H : Hp) (a : Addr) (ks : List Int) : Prop := ∃ kvs : List (L2.Key × V), H a = some (.dK kvs) ∧ kvs.map (·.1) = ks.map Sum.inl
theorem valV_keys {kvs : List (L2.Key × V)} {ks : List Int} (e : kvs.map (·.1) = ks.map Sum.inl) (k : Int) : (valV kvs (.inl k)).isSome = decide (k ∈ ks) := by
  rw [← valV_any]
  have e1 : (kvs.any fun kv => decide (kv.1 = Sum.inl k)) = ((kvs.map (·.1)).any fun x => decide (x = Sum.inl k)) := by rw [List.any_map]; rfl
  rw [e1, e, List.any_map]
  rw [Bool.eq_iff_iff, List.any_eq_true, decide_eq_true_eq]
  constructor
  · rintro ⟨n, hn, h⟩
    have h : (Sum.inl n : L2.Key) = Sum.inl k := of_decide_eq_true h
    injection h with h
    rw [← h]; exact hn
  · exact fun h => ⟨k, h, by simp⟩
theorem KeysAt.get {H : Hp} {a : Addr} {ks : List Int} (h : KeysAt H a ks) (k : Int) : ∃ o, DGet H a (.int k) o ∧ o.isSome = decide (k ∈ ks) := by
  obtain ⟨kvs, e, ek⟩ := h
  exact ⟨_, DGet.k (k := .inl k) e, valV_keys ek k⟩
theorem KeysAt.put {H : Hp} {a : Addr} {ks : List Int} (h : KeysAt H a ks) (k : Int) (v : V) (hl : ks.length < sizeLine) : ∃ H' o, DPut H a (.int k) v H' ∧ H' = upd H a o ∧ KeysAt H' a (if k ∈ ks then ks else ks ++ [k]) := by
  obtain ⟨kvs, e, ek⟩ := h
  have ll : kvs.length = ks.length := by have := congrArg List.length ek; simpa using this
  refine ⟨_, _, DPut.k (k := .inl k) e (by omega), rfl, _, upd_same, ?_⟩
  have hv := valV_keys ek k
  unfold putK
  rw [valV_any, hv]
  by_cases c : k ∈ ks
  · rw [decide_eq_true c, if_pos rfl, if_pos c, List.map_map, ← ek]
    apply List.map_congr_left
    intro kv _
    show (if kv.1 = Sum.inl k then (kv.1, v) else kv).1 = kv.1
    split <;> rfl
  · rw [decide_eq_false c, if_neg (by decide), if_neg c, List.map_append, List.map_append, ek]; rfl
theorem KeysAt.keep {H H' : Hp} {a : Addr} {ks : List Int} (h : KeysAt H a ks) (k : ∀ o, H a = some o → H' a = some o) : KeysAt H' a ks := let ⟨kvs, e, ek⟩ := h; ⟨kvs, k _ e, ek⟩
theorem KeysAt.some {H : Hp} {a : Addr} {ks : List Int} (h : KeysAt H a ks) : ∃ kvs, H a = Option.some (.dK kvs) := let ⟨kvs, e, _⟩ := h; ⟨kvs, e⟩
theorem KeysAt.list {H : Hp} {a : Addr} {ks : List Int} (h : KeysAt H a ks) : ∃ kvs : List (L2.Key × V), H a = Option.some (.dK kvs) ∧ (kvs.map fun kv => kV kv.1) = ks.map V.int := by
  obtain ⟨kvs, e, ek⟩ := h
  refine ⟨kvs, e, ?_⟩
  have := congrArg (List.map kV) ek
  rw [List.map_map, List.map_map] at this
  exact this
/-- a def that makes code objects: its own code object is known -/
theorem Fk.mkC {P : Program} {w : World} {K : PySem.W.Frag} {mg : Str → Option Value} {base : Heap} {k : Nat} {ps : List Str} {sp : Sp} {at_ : Str × Option Str} {x qual : Str} {params : Arguments} {body : List Stmt} {scope : Scope} {N : List Str} (F : ∃ fd, FunD K x qual params body scope [] [] (He.fAd K at_) fd) (S : FnScope N ps scope)
    (hb : ∀ (kV doc pm : Value) (an : Option Addr) (cdv ct : Value) (us : List Value), us.length = ps.length → bindArgs (PySem.W.fnOf x qual params body scope .none kV doc pm an cdv ct) ⟨us, []⟩ = pure (ps.zip us))
    (len : ∀ vs H Q E, sp vs H Q E → vs.length = ps.length)
    (hbody : ∀ (cdv : Value) (hcd : cdv = .ref (He.cT K at_).1) (A : Around) (outer : List Env) (s : Shared) (H : Hp) (vs : List V) (Q : VK) (E : XK), Room k (A.deeper (envOfC qual scope s.heap.objs.size (He.fAd K at_) cdv)) → sp vs H Q E →
      ∃ t, PSs (cxOf (L2.CX P w) P w K mg base N qual scope (He.fAd K at_) cdv A outer s H E) body t ∧ t { nx := fun _ H' => Q .non H', rt := Q } (start N vs) H) : Fk P w K mg base (k + 1) (He.fAd K at_) ps sp := by
  obtain ⟨fd, F⟩ := F
  refine ⟨⟨fd, ?_, F.bindsN hb⟩, F.kp⟩
  obtain ⟨oc, od, dV, kV, doc, pm, an, cdv, ct, osl, rfl, lk, hcd, _, _⟩ := F.ex
  obtain ⟨c, e⟩ := He.codeIn_ref hcd
  have e2 : He.codeOf K at_ = c := He.codeOf_eq lk (c := c) e
  exact fn_of lk hcd S len fun A outer s H vs Q E hr hsp => hbody cdv (by rw [e]; show _ = Value.ref (He.codeOf K at_); rw [e2]) A outer s H vs Q E hr hsp
end Mur
/-! The head with a written dict and tables of code objects. -/
namespace Mur
open PySem hiding start
open PySem.Spec L2
open PyProof.Rows hiding St
abbrev AlXV : Type := He.AlX × Option (List (Option (Str × Int × Int)))
section
variable (n : Nat) (fa : List He.Fa) (fn : List He.DefD) (tf : List He.Defn) (x : Str) (kvs : List (Str × Int))
def obsXV (g : Addr → Option Obj) : AlXV := (He.obsX n fa fn [] tf (fun _ => true) g, tabW (He.frT g (He.asD g n)) (He.ga (He.frT g (He.asD g n)) x))
def valXV (w : World) : AlXV := (He.valX fn [] w, some (tabIn w.params kvs))
structure SaysXV (w : World) (h : Heap) (K : PySem.W.Frag) : Prop where
  sx : He.SaysX fa fn [] tf (fun _ => true) w h K
  t : Tabl K w (He.ga K x) kvs
def hookXV : PySem.W.Hook where
  α := AlXV
  obs := fun s => obsXV n fa fn tf x s.heap.get?
  val := fun w => valXV fn kvs w
  says := fun w h => ∃ K : PySem.W.Frag, K.In h ∧ SaysXV fa fn tf x kvs w h K
  of := fun _ _ e => ⟨_, He.frT_in, ⟨He.saysX_of (congrArg (fun z : AlXV => z.1) e), tabW_ok (congrArg (fun z : AlXV => z.2) e)⟩⟩
  keeps := fun _ _ _ ⟨K, hK, c⟩ k => ⟨K, PySem.W.Frag.In.keeps hK k, ⟨⟨c.sx.t, c.sx.more, c.sx.hd, c.sx.out, fun p hp => k _ _ (c.sx.empty p hp)⟩, c.t⟩⟩
end
theorem obsXV_eq {n : Nat} {fa : List He.Fa} {fn : List He.DefD} {tf : List He.Defn} {x : Str} {kvs : List (Str × Int)} {g : Addr → Option Obj} {s : Shared} (h : ∀ a, g a = s.heap.get? a) : obsXV n fa fn tf x g = (hookXV n fa fn tf x kvs).obs s := by
  have e : g = s.heap.get? := funext h
  rw [e] <;> rfl
/-- a <= b <= c <= d, asked -/
def tChain3 (r r' r'' : R2) (ta tb tc td : TE) : TT := fun σ H Q => ta σ H fun x H1 => tb σ H1 fun y H2 => r x y H2 fun z H3 => ∃ k, z = .bl k ∧
  (if k = true then tc σ H3 fun w H4 => r' y w H4 fun z2 H5 => ∃ k2, z2 = .bl k2 ∧ (if k2 = true then td σ H5 fun v H6 => r'' w v H6 fun z3 H7 => ∃ k3, z3 = .bl k3 ∧ Q k3 H7 else Q false H5) else Q false H3)
theorem pt_chain3 {X : Cx} {a b c d : Expr} {pos : Pos} {ta tb tc td : TE} {op op' op'' : CmpOp} {r r' r'' : R2} (ho : OpR X (compareOp op) r) (ho' : OpR X (compareOp op') r') (ho'' : OpR X (compareOp op'') r'') (ha : PE X a ta) (hb : PE X b tb) (hc : PE X c tc) (hd : PE X d td)
    (hm : lastMarks [op, op', op''] [b, c, d] = false := by with_unfolding_all rfl) : PT X (.Compare a [op, op', op''] [b, c, d] pos) (tChain3 r r' r'' ta tb tc td) := by
  refine ⟨fun pins s σ H Q I h => ?_⟩
  refine isTrue_chain (thn (ha.run pins s σ H _ I h) fun v s1 ⟨x, H1, I1, r1, q1⟩ => test_link (thn (hb.run pins s1 σ H1 _ I1 q1) fun u s2 ⟨y, H2, I2, r2, q2⟩ =>
    thn (ho pins s2 σ H2 x y v u _ I2 r1 r2 q2) fun d s3 ⟨z, H3, I3, r3, k, e, q3⟩ => ?_)) hm
  subst e
  cases r3
  refine wpAny_truthy_bool ?_
  cases k with
  | false => exact ite_ff ⟨H3, I3, q3⟩
  | true =>
    refine ite_tt (test_link (thn (hc.run pins s3 σ H3 _ I3 q3) fun w' s4 ⟨z', H4, I4, r4, q4⟩ => thn (ho' pins s4 σ H4 y z' u w' _ I4 r2 r4 q4) fun d' s5 ⟨z2, H5, I5, r5, k2, e2, q5⟩ => ?_))
    subst e2
    cases r5
    refine wpAny_truthy_bool ?_
    cases k2 with
    | false => exact ite_ff ⟨H5, I5, q5⟩
    | true =>
      refine ite_tt (test_last (thn (hd.run pins s5 σ H5 _ I5 q5) fun v' s6 ⟨z3, H6, I6, r6, q6⟩ => thn (ho'' pins s6 σ H6 z' z3 w' v' _ I6 r4 r6 q6) fun d2 s7 ⟨z4, H7, I7, r7, k3, e3, q7⟩ => ?_))
      subst e3
      cases r7
      exact wpAny_truthy_bool ⟨H7, I7, q7⟩
/-- deeds done one behind the other, as a row of stands -/
inductive Run : List Pic → SS → List Pic → SS → Prop
  | refl {ps : List Pic} {st : SS} : Run ps st ps st
  | grow {ps p1 qs : List Pic} {st s1 : SS} {k : Nat} : Run ps st p1 s1 → StOk p1 k s1 → Run ps st (p1 ++ qs) s1
  | step {ps p1 qs : List Pic} {st s1 : SS} {dd : Deed} {k : Nat} : Run ps st p1 s1 → StOk p1 k s1 → refuse p1 s1 dd = none → hasP (p1 ++ qs) s1 dd → Run ps st (p1 ++ qs) (eff (p1 ++ qs) s1 dd)
end Mur
/-! Exceptions with an own __init__ and a field; the head with a written dict, tables and such exceptions. -/
namespace Mur
open PySem hiding start
open PySem.Spec L2
open PyProof.Rows hiding St
def oexC (K : PySem.W.Frag) (C : Addr) : Bool := match K.lookup C with
  | some ⟨.type "type", _, .cls cd, sl⟩ => (match cd.mro, sl.toList with
    | .ref C' :: bm, [_, _, _, _, some (.builtin n), _] => C' == C && n == "ValueError.__new__" && !cd.hasDel && cd.hasDict && PySem.HandSPX.refsVE bm
    | _, _ => false)
  | _ => false
theorem oexC_of {K : PySem.W.Frag} {C : Addr} (q : oexC K C = true) : ∃ nm q N bs bm sn sub ab col dd k0 k1 k2 k3 k5, K.lookup C = some (excClassObj nm q C N bs bm true sn sub ab col dd k0 k1 k2 k3 k5 "ValueError.__new__") ∧ PySem.HandSPX.refsVE bm = true := by
  unfold oexC at q
  split at q
  · rename_i dd cd sl ho
    split at q
    · rename_i C' bm k0 k1 k2 k3 n k5 hm hs
      simp only [Bool.and_eq_true, beq_iff_eq, Bool.not_eq_true'] at q
      obtain ⟨⟨⟨⟨rfl, rfl⟩, hdel⟩, hd⟩, ht⟩ := q
      obtain ⟨nm, bs, mro, ns, qn, hd2, sn, sub, ab, col, del⟩ := cd
      dsimp only at hm hdel hd
      subst hm hdel hd
      have hsl : sl = #[k0, k1, k2, k3, some (.builtin "ValueError.__new__"), k5] := by
        obtain ⟨l⟩ := sl
        simp only at hs
        rw [hs]
      subst hsl
      exact ⟨nm, qn, ns, bs, bm, sn, sub, ab, col, dd, k0, k1, k2, k3, k5, ho, ht⟩
    · cases q
  · cases q
/-- what is known of an exception class x whose __init__ stores the field f -/
structure Oex (K : PySem.W.Frag) (x f : Str) : Prop where
  c : OexC K (He.ga K x)
  i : PySem.W.findIn K (.ref (He.ga K x)) "__init__" = some (some (.ref (He.ma K (He.ga K x) "__init__")))
  t : PySem.W.typeIn K (.ref (He.ma K (He.ga K x) "__init__")) = some (.type "function")
  n : PySem.W.findIn K (.ref (He.ga K x)) f = some none
  x : XfC K (He.ga K x)
def oexB (x f : Str) (K : PySem.W.Frag) : Bool :=
  oexC K (He.ga K x) && (He.eqO (PySem.W.findIn K (.ref (He.ga K x)) "__setattr__") (some (some (.builtin "object.__setattr__"))) && (decide (PySem.W.subIn K (.ref (He.ga K x)) (.type "BaseException") = some true) && (decide (PySem.W.typeIn K (.ref (He.ga K x)) = some (.type "type")) && (PySem.W.keepIn K (.ref (He.ga K x)) &&
  (He.eqO (PySem.W.findIn K (.ref (He.ga K x)) "__init__") (some (some (.ref (He.ma K (He.ga K x) "__init__")))) && (decide (PySem.W.typeIn K (.ref (He.ma K (He.ga K x) "__init__")) = some (.type "function")) && (He.eqO (PySem.W.findIn K (.ref (He.ga K x)) f) (some none) && xfB K (He.ga K x))))))))
theorem oexB_ok {K : PySem.W.Frag} {x f : Str} (h : oexB x f K = true) : Oex K x f := by
  unfold oexB at h
  obtain ⟨h1, h⟩ := He.ba h
  obtain ⟨h2, h⟩ := He.ba h
  obtain ⟨h3, h⟩ := He.ba h
  obtain ⟨h4, h⟩ := He.ba h
  obtain ⟨h5, h⟩ := He.ba h
  obtain ⟨h6, h⟩ := He.ba h
  obtain ⟨h7, h⟩ := He.ba h
  obtain ⟨h8, h9⟩ := He.ba h
  exact ⟨⟨oexC_of h1, He.eqO_ok h2, of_decide_eq_true h3, of_decide_eq_true h4, h5⟩, He.eqO_ok h6, of_decide_eq_true h7, He.eqO_ok h8, xfB_ok h9⟩
section
variable {X : Cx} {k : Nat} {ps : List Str} {sp : Sp} {x f : Str} {p pos : Pos} {e : Expr} {es : List Expr} {ta : TA}
/-- x(e, ..) raised -/
theorem q_mkO (O : Oex X.K x f) (G : Fk X.prog X.w X.K X.mg X.base k (He.ma X.K (He.ga X.K x) "__init__") ps sp) (hr : Room (k + 1) X.A) (hm : X.mg x = some (.ref (He.ga X.K x))) (hx : Passes (L2.CX X.prog X.w) X (fun _ _ _ => False)) (ha : PA X (e :: es) ta)
    (hg : Gl X x := by rfl) (hdb : (x == ("__debug__" : Str)) = false := by decide) (he : starEach (e :: es) X.env = (false, eval e X.env) :: starEach es X.env := by rfl) (hpl : (backTo pos (starEach es X.env)).any (·.1) = false := by rfl) :
    PMk X (.Call (.Name x p) (e :: es) [] pos) (tMkO (He.ga X.K x) sp [] ta) := by
  obtain ⟨fd, F, B⟩ := G.ex
  exact pmk_oex O.c O.i O.t F hr B .nil hx hg hm ha hdb he hpl
end
theorem passF {P : Program} {w : World} {K : PySem.W.Frag} {mg : Str → Option Value} {base : Heap} {N : List Str} {qual : Str} {scope : Scope} {f : Addr} {cd : Value} {A : Around} {outer : List Env} {s : Shared} {H : Hp} {E : XK} :
    Passes (L2.CX P w) (cxOf (L2.CX P w) P w K mg base N qual scope f cd A outer s H E) (fun _ _ _ => False) := passes_call (takes_of rfl rfl rfl rfl) fun _ _ _ _ h => h.elim
theorem passTF {X : Cx} {W : WX} (tk : Takes X W) : Passes (L2.CX X.prog X.w) X (fun _ _ _ => False) := passes_call tk fun _ _ _ _ h => h.elim
section
variable (n : Nat) (fa : List He.Fa) (fn : List He.DefD) (tf : List He.Defn) (ex : PySem.W.Frag → Bool) (x : Str) (kvs : List (Str × Int))
def obsXE (g : Addr → Option Obj) : AlXV := (He.obsX n fa fn [] tf ex g, tabW (He.frT g (He.asD g n)) (He.ga (He.frT g (He.asD g n)) x))
structure SaysXE (w : World) (h : Heap) (K : PySem.W.Frag) : Prop where
  sx : He.SaysX fa fn [] tf ex w h K
  t : Tabl K w (He.ga K x) kvs
def hookXE : PySem.W.Hook where
  α := AlXV
  obs := fun s => obsXE n fa fn tf ex x s.heap.get?
  val := fun w => valXV fn kvs w
  says := fun w h => ∃ K : PySem.W.Frag, K.In h ∧ SaysXE fa fn tf ex x kvs w h K
  of := fun _ _ e => ⟨_, He.frT_in, ⟨He.saysX_of (congrArg (fun z : AlXV => z.1) e), tabW_ok (congrArg (fun z : AlXV => z.2) e)⟩⟩
  keeps := fun _ _ _ ⟨K, hK, c⟩ k => ⟨K, PySem.W.Frag.In.keeps hK k, ⟨⟨c.sx.t, c.sx.more, c.sx.hd, c.sx.out, fun p hp => k _ _ (c.sx.empty p hp)⟩, c.t⟩⟩
end
theorem obsXE_eq {n : Nat} {fa : List He.Fa} {fn : List He.DefD} {tf : List He.Defn} {ex : PySem.W.Frag → Bool} {x : Str} {kvs : List (Str × Int)} {g : Addr → Option Obj} {s : Shared} (h : ∀ a, g a = s.heap.get? a) : obsXE n fa fn tf ex x g = (hookXE n fa fn tf ex x kvs).obs s := by
  have e : g = s.heap.get? := funext h
  rw [e] <;> rfl
section
variable {M : Model} {A : Around} {E : Value → Shared → Prop} {s : Shared}
theorem callWith_typeKw {pos : Pos} {T : String} {first : List Value} {args : List (Bool × Sem Value)} {keywords : List (Option Str × Sem Value)} {Q : Value → Shared → Prop} (hplain : args.any (·.1) = false) (hkw : keywords.any (·.1.isNone) = false)
    (h : wpAny M A (evalArgs (.type T) true args keywords) (fun a s₁ => wpAny M A (call (.type T) (first ++ a.pos) a.kw) Q E s₁) E s) : wpAny M A (callWith pos (.type T) first args keywords) Q E s := by
  unfold callWith
  refine wpAny_bind (wpAny_holding (wpAny_mono h (fun a s₁ h₁ => wpAny_bind (wpAny_standAt ?_)) fun _ _ x => x))
  simp only [hplain, hkw, Bool.or_false]
  refine wpAny_bind (wpAny_pure ?_)
  exact wpAny_bind (wpAny_mono h₁ (fun r s₂ hr => wpAny_bind (wpAny_holding (wpAny_point (wpAny_pure hr)))) fun _ _ x => x)
theorem enum_endC {prog : Program} {w : World} {e it l : Addr} {i : Nat} {c : Int} {items : Array Value} {old : Value} {Q : Option Value → Shared → Prop} (hh : A.handled = none)
    (he : IsEnum s.heap e it c old) (hit : s.heap.IsListIter it l i) (hl : s.heap.IsList l items) (hx : items[i]? = none)
    (hQ : ∀ h', Heap.ExtBut it s.heap h' → Q none { s with heap := h' }) : wpAny (model prog w) A (pyNext (.ref e)) Q E s := by
  have hT : s.TypeIs (.ref e) "enumerate" := ⟨_, he, rfl⟩
  unfold pyNext
  refine wpAny_bind (wpAny_attempt (wpAny_callSpecial?_slot (name := Str.ofString "__next__") hT F.slot_enumerate_next
    (wpAny_call_entry F.slot_enumerate_next hT F.entry_enumerate_next ?_ (F.args_enumerate_next_1 _))))
  show wpAny _ _ (field (.ref e) 2 >>= _) _ _ _
  refine wpAny_bind (wpAny_field he rfl (x := .ref it) rfl ?_)
  refine wpAny_bind (wpAny_nextOf_list_end hh hit hl hx fun h' x he' hx' => ?_)
  obtain ⟨o, ho, hc⟩ := hx'
  refine wpAny_bind (wpAny_isInstance (T := "StopIteration") (b := true) ⟨o, ho, hc⟩ isSubtype_stop ?_)
  exact wpAny_pure (hQ _ he')
end
section
/-! enumerate(xs, start=k) -/
/-- the list at a as it stands at each turn, each item in a new pair, counted from k -/
def IteS (K : PySem.W.Frag) (k : Int) (a : Addr) : It := ⟨(Ite K a).go, fun i H v H' => ∃ T x, v = .ref T ∧ H T = none ∧ H' = upd H T (.tup [.int (k + (i : Nat)), x]) ∧ ∀ xs, SqL K H a xs → xs[i]? = some x, (Ite K a).stop⟩
theorem turn_enumS {P : Program} {w : World} {K : PySem.W.Frag} {elts : List Expr} {kk : Nat} {tpos : Pos} (k : Int) (a e it : Addr) :
    Turn P w K (.Tuple elts kk tpos) (IteS K k a) [e, it] e (fun i h => (∃ old, IsEnum h e it (k + (i : Nat)) old) ∧ h.IsListIter it a i ∧ e ≠ it) where
  mem := by simp
  obj := fun i h st b hb => by
    obtain ⟨⟨old, he⟩, ⟨o, ho, hc, hd⟩, _⟩ := st
    have e' : b = e ∨ b = it := by simpa using hb
    rcases e' with z | z
    · rw [z]; exact ⟨_, he, fun v q => nomatch q⟩
    · rw [z]; exact ⟨o, ho, fun v q => by rw [hd] at q; cases q⟩
  keep := fun i h h' st kp => let ⟨⟨old, he⟩, hi, hne⟩ := st; ⟨⟨old, kp e (by simp) _ he⟩, hi.at fun o q => kp it (by simp) o q, hne⟩
  item := by
    intro X hP hw hK hc i pins s σ H E I hf st hg
    subst hP hw hK
    obtain ⟨⟨old, he⟩, hit, hne⟩ := st
    obtain ⟨xs, x, hq, hx⟩ := hg
    obtain ⟨its, rv, p, hz⟩ := I.list hq
    obtain ⟨u, hu, ru⟩ := rv.get hx
    have hel : e < s.heap.objs.size := Heap.lt_size he
    have hil : it < s.heap.objs.size := by obtain ⟨_, q, _⟩ := hit; exact Heap.lt_size q
    have hla : a ≠ it := fun z => by
      obtain ⟨o1, ho1, hc1, _⟩ := hit
      obtain ⟨o2, ho2, hc2, _⟩ := p.isList
      rw [z, ho1] at ho2
      obtain rfl := Option.some.inj ho2
      rw [hc1] at hc2
      exact absurd (Value.type.inj hc2) (by decide)
    have hea : e ≠ a := fun z => by
      obtain ⟨o2, ho2, hc2, _⟩ := p.isList
      have he2 : s.heap.get? e = some _ := he
      rw [z, ho2] at he2
      obtain rfl := Option.some.inj he2
      exact absurd (Value.type.inj hc2) (by decide)
    have hi : i < its.toArray.size := by
      have := (List.getElem?_eq_some_iff.mp hu).1
      simpa using this
    have hh : X.A.in1.handled = none := I.ok.hd hc
    refine wpAny_pyNext_enum_itemC (i := i) (PySem.Draws.list hh it a hla its.toArray) he ⟨hit, p.isList⟩ hi hne (by simp [hne, hea]) fun x2 h' tk hx2 ho hst' hT hsz hk => ?_
    obtain ⟨hit', _⟩ := hst'
    obtain rfl : x2 = u := by
      have h1 : its[i]? = some x2 := by simpa using hx2
      rw [hu] at h1
      exact (Option.some.inj h1).symm
    refine ⟨_, rfl, wpAny_letOwnedTupleGo_enum (s := { s with heap := h', toks := tk + 1 }) ho fun h'' he' sb => ?_⟩
    have hT2 : h''.get? s.heap.objs.size = some { cls := .type "tuple", data := .seq #[.int (k + (i : Nat)) tk, x2] } := (sb.2 _ (Nat.ne_of_gt hel)).trans hT
    have new : ObjOk X.prog X.w (upd H s.heap.objs.size (.tup [.int (k + (i : Nat)), x])) h'' s.heap.objs.size (.tup [.int (k + (i : Nat)), x]) :=
      ⟨by show 2 ≤ sizeLine; decide, [.int (k + (i : Nat)) tk, x2], .cons ⟨_, rfl⟩ (.cons ru .nil), ⟨_, hT2, rfl, _, rfl⟩⟩
    have I1 : Inv X pins σ (upd H s.heap.objs.size (.tup [.int (k + (i : Nat)), x])) { s with heap := h'', toks := tk + 1 } :=
      I.turnedNew (ch := [e, it]) (fun b ob hb q => (sb.2 b (fun z => hb (by simp [z]))).trans (hk b ob (fun z => hb (by simp [z])) (fun z => hb (by simp [z])) q)) hf (Nat.le_refl _) new
    refine ⟨.ref s.heap.objs.size, _, I1, rfl, ⟨_, x, rfl, I.hok.fresh (Nat.le_refl _), rfl, fun ys hy => by rw [I.list_inj hy hq]; exact hx⟩, ⟨⟨x2, ?_⟩, hit'.at fun o q => (sb.2 it (Ne.symm hne)).trans q, hne⟩, fun b hb => ?_⟩
    · have e1 : k + ((i + 1 : Nat) : Int) = k + (i : Nat) + 1 := by omega
      rw [e1]; exact he'
    · have hb' : b < s.heap.objs.size := by
        have e' : b = e ∨ b = it := by simpa using hb
        rcases e' with z | z
        · rw [z]; exact hel
        · rw [z]; exact hil
      rw [upd_ne (Nat.ne_of_lt hb')]
      exact (hf b hb).1
  done := by
    intro X hP hw hK hc i pins s σ H E I hf st hg
    subst hP hw hK
    obtain ⟨⟨old, he⟩, hit, hne⟩ := st
    obtain ⟨xs, hq, hx⟩ := hg
    obtain ⟨its, rv, p, hz⟩ := I.list hq
    obtain ⟨f0, f1, f2, f3, f4, f5⟩ := hf it (by simp)
    have hl := rv.length
    exact enum_endC (I.ok.hd hc) he hit p.isList (by simp; omega) fun h' eb => ⟨rfl, I.turned (t' := s.toks) (fun b o hb q => eb b o hb q) f0 f1 f3 f4 f5⟩
  self := fun A i s Q E st h => let ⟨⟨_, he⟩, _⟩ := st; wpAny_pyIter_enum he h
def iEnumS (K : PySem.W.Frag) (k : Int) (te : TE) : TI := fun σ H R => te σ H fun v H1 => ∃ a xs, v = .ref a ∧ SqL K H1 a xs ∧ R (IteS K k a) H1
theorem pi_enumS {X : Cx} {e ek : Expr} {te : TE} {k : Int} {p pos tpos kpos : Pos} {elts : List Expr} {kk : Nat} (hg : Gl X "enumerate") (hm : X.mg "enumerate" = none) (ha1 : PA X [e] (tCons te tNil)) (hk : PE X ek (tC (.int k))) (k0 : 0 ≤ k) (k1 : k < 1000)
    (hst : backTo pos (starEach [e] X.env) = (false, eval e X.env) :: backTo pos (starEach [] X.env) := by rfl) (hpl : (backTo pos (starEach [e] X.env)).any (·.1) = false := by rfl)
    (hall : (backToKw pos (keywordEach [⟨some "start", ek, kpos⟩] X.env)).all (·.1.isSome) = true := by rfl) (hnone : (backToKw pos (keywordEach [⟨some "start", ek, kpos⟩] X.env)).any (·.1.isNone) = false := by rfl) :
    PI X (.Tuple elts kk tpos) (.Call (.Name "enumerate" p) [e] [⟨some "start", ek, kpos⟩] pos) (iEnumS X.K k te) := by
  refine ⟨fun pins s σ H R I h => ?_⟩
  refine wpAny_Call_Name_kw (ld_blt I hg hm boot_enumerate ?_ (by decide) (by decide))
  let R0 : List V → Hp → Prop := fun vs H1 => match vs with
    | [v] => ∃ a xs, v = .ref a ∧ SqL X.K H1 a xs ∧ R (IteS X.K k a) H1
    | _ => False
  refine callWith_typeKw hpl hnone ?_
  rw [hst]
  refine PyProof.Rows.evalArgs_kwB hall ?_
  rw [← hst]
  refine thn (ha1.run pos pins s σ H R0 I h) fun us s1 ⟨vs, H1, I1, r1, q1⟩ => ?_
  obtain ⟨a, xs, rfl, hq, q⟩ : ∃ a xs, vs = [.ref a] ∧ SqL X.K H1 a xs ∧ R (IteS X.K k a) H1 := by
    match vs, q1 with
    | [v], ⟨a, xs, e, h1, h2⟩ => exact ⟨a, xs, by rw [e], h1, h2⟩
  obtain rfl := Vals.ref1 r1
  refine PyProof.Rows.kws_cons (thn (hk.run pins s1 σ H1 (fun v H2 => v = .int k ∧ H2 = H1) I1 ⟨rfl, rfl⟩) fun v s2 ⟨x, H2, I2, r2, ex, eh⟩ => PyProof.Rows.kws_nil ?_)
  subst ex eh
  obtain ⟨t, rfl⟩ : ∃ t, v = Value.int k t := r2
  show wpAny (model X.prog X.w) X.A (call (.type "enumerate") [.ref a] [(Str.ofString "start", .int k t)]) _ _ s2
  obtain ⟨its, rv, p', hz⟩ := I2.list hq
  refine enum_begins_start (begins_list a its.toArray) p'.isList (by omega) (by omega) fun h' he ho hsz hkk => wpAny_pyIter_enum he ?_
  have I3 : Inv X pins σ H2 { s2 with heap := h' } := I2.kept (t' := s2.toks) hkk
  refine ⟨s2.heap.objs.size + 1, [s2.heap.objs.size + 1, s2.heap.objs.size], _, _, H2, rfl, I3, turn_enumS k a (s2.heap.objs.size + 1) s2.heap.objs.size, ⟨⟨.none, ?_⟩, ⟨_, ho, rfl, rfl⟩, Nat.succ_ne_self _⟩, fun b hb => ?_, q⟩
  · show IsEnum h' _ _ (k + ((0 : Nat) : Int)) _
    rw [show k + ((0 : Nat) : Int) = k by omega]
    exact he
  have e' : b = s2.heap.objs.size + 1 ∨ b = s2.heap.objs.size := by simpa using hb
  have hle : s2.heap.objs.size ≤ b := by
    rcases e' with z | z
    · rw [z]; exact Nat.le_add_right _ _
    · rw [z]; exact Nat.le_refl _
  exact I2.fpOk hle (I2.hok.fresh hle)
theorem walk_enumS {K : PySem.W.Frag} {a : Addr} {xs : List V} (k : Int) : Walk (IteS K k a) xs.length (fun H => SqL K H a xs) (YPair (fun i => some (.int (k + (i : Nat)))) (fun i => xs[i]?)) := by
  refine ⟨fun i _ hi q => ⟨xs, xs[i], q, by simp [hi]⟩, fun _ q => ⟨xs, q, Nat.le_refl _⟩, fun i H v H' _ q y => ?_⟩
  obtain ⟨T, x, h1, h2, h3, h4⟩ := y
  exact ⟨T, .int (k + (i : Nat)), x, h1, h2, h3, rfl, h4 xs q⟩
theorem k_enumS {X : Cx} {e ek : Expr} {te : TE} {k : Int} {p pos tpos kpos : Pos} {elts : List Expr} {kk : Nat} (K : PySem.W.Frag) (hg : Gl X "enumerate") (hm : X.mg "enumerate" = none) (ha1 : PA X [e] (tCons te tNil)) (hk : PE X ek (tC (.int k))) (k0 : 0 ≤ k) (k1 : k < 1000) (hK : X.K = K := by rfl)
    (hst : backTo pos (starEach [e] X.env) = (false, eval e X.env) :: backTo pos (starEach [] X.env) := by rfl) (hpl : (backTo pos (starEach [e] X.env)).any (·.1) = false := by rfl)
    (hall : (backToKw pos (keywordEach [⟨some "start", ek, kpos⟩] X.env)).all (·.1.isSome) = true := by rfl) (hnone : (backToKw pos (keywordEach [⟨some "start", ek, kpos⟩] X.env)).any (·.1.isNone) = false := by rfl) :
    PI X (.Tuple elts kk tpos) (.Call (.Name "enumerate" p) [e] [⟨some "start", ek, kpos⟩] pos) (iEnumS K k te) := by subst hK; exact pi_enumS hg hm ha1 hk k0 k1 hst hpl hall hnone
theorem z_enumS {K : PySem.W.Frag} {k : Int} {te : TE} {σ : L2.St} {H : Hp} {R : It → Hp → Prop} (h : te σ H fun v H1 => ∃ a xs, v = .ref a ∧ SqL K H1 a xs ∧ R (IteS K k a) H1) : iEnumS K k te σ H R := h
end
end Mur
/-! Histories of deeds, lines of pages; the same deeds in two stores. -/
namespace Mur
open PySem hiding start
open PySem.Spec L2
open PyProof.Rows hiding St
inductive Hist (ps : List Pic) : SS → Prop
  | new : Hist ps noneYet
  | step {st : SS} {dd : Deed} {k : Nat} : Hist ps st → StOk ps k st → isDeed dd.items = true → refuse ps st dd = none → hasP ps st dd → Hist ps (eff ps st dd)
theorem Hist.app {ps qs : List Pic} {st : SS} (h : Hist ps st) : Hist (ps ++ qs) st := by
  induction h with
  | new => exact .new
  | step _ ok hd hr hp ih =>
    have := Hist.step ih (ok.mono (qs := qs) (Nat.le_refl _)) hd (by rw [refuse_app ok]; exact hr) (hasP_app ok hr hp)
    rwa [eff_app ok hr hp] at this
def linesOf (text : Str) : List Str := if text = "" then [] else Txt.split text "\n"
def LinesD (ls : List Str) (ds : List Deed) : Prop := ls.length = ds.length ∧ ∀ (i : Nat) (z : Str) (dd : Deed), ls[i]? = some z → ds[i]? = some dd → readOf z = some (dd.name, dd.args)
def BadL (ps : List Pic) (st : SS) (z : Str) : Prop := readOf z = none ∨ ∃ dd : Deed, readOf z = some (dd.name, dd.args) ∧ refuse ps st dd ≠ none
/-- a shop made behind H in the store at p -/
structure Fresh (H : Hp) (p : Addr) (A : FA) (D : Addr → Prop) (ps : List Pic) (H' : Hp) (y : Ws) : Prop where
  ep : y.p = p
  eA : y.A = A
  ext : ∃ qs, y.ps = ps ++ qs
  keep : Keep A.foot H H'
  live : Live H H'
  D : ∀ b, y.D b → D b ∨ H b = none
  m : ∀ b ∈ y.B.muts y.s, H b = none
theorem LinesD.snoc {ls : List Str} {ds : List Deed} {z : Str} {dd : Deed} (h : LinesD ls ds) (hz : readOf z = some (dd.name, dd.args)) : LinesD (ls ++ [z]) (ds ++ [dd]) := ⟨by rw [List.length_append, List.length_append, h.1]; rfl, fun i y d h1 h2 => by
  have hl := h.1
  by_cases c : i < ls.length
  · rw [List.getElem?_append_left c] at h1
    rw [List.getElem?_append_left (by omega)] at h2
    exact h.2 i y d h1 h2
  · rw [List.getElem?_append_right (by omega)] at h1
    rw [List.getElem?_append_right (by omega)] at h2
    have e0 : i - ls.length = 0 := by
      have := (List.getElem?_eq_some_iff.mp h1).1
      simp at this; omega
    rw [e0] at h1
    rw [show i - ds.length = 0 by omega] at h2
    obtain rfl := Option.some.inj h1
    obtain rfl := Option.some.inj h2
    exact hz⟩
theorem items_parts {w : Str} {ns : List Int} {dd : Deed} (h : PyData.str w :: ns.map PyData.int = dd.items) : w = dd.name ∧ ns = dd.args := by
  unfold Deed.items at h
  injection h with h1 h2
  exact ⟨PyData.str.inj h1, (List.map_inj_right fun _ _ e => PyData.int.inj e).mp h2⟩
/-- a shop whose stands are those of its deeds, one behind the other -/
structure Told37 (y : Ws) : Prop where
  h : ∀ st, st = y.now ∨ st ∈ y.past → Hist y.ps st
  n : y.past.length = y.now.deeds.length
  c : ∀ (j : Nat) (st : SS), y.past[j]? = some st → st.deeds.length = j
  a : y.past.length + y.ahead.length ≤ y.k
theorem Told37.new {y : Ws} (e : y.now = noneYet) (ep : y.past = []) (ea : y.ahead = []) : Told37 y := by
  refine ⟨fun st h => ?_, by rw [e, ep]; rfl, fun j st h => ?_, by rw [ep, ea]; exact Nat.zero_le _⟩
  · rcases h with rfl | h
    · rw [e]; exact .new
    · rw [ep] at h; cases h
  · rw [ep] at h; simp at h
theorem Told37.step {K : PySem.W.Frag} {H : Hp} {x y : Ws} {dd : Deed} (t : Told37 x) (hx : x.at K H) (ext : ∃ qs, y.ps = x.ps ++ qs) (hd : isDeed dd.items = true) (hr : refuse x.ps x.now dd = none) (en : y.now = eff y.ps x.now dd) (ep : y.past = x.past ++ [x.now]) (ea : y.ahead = []) (ek : y.k = x.k + 1) (hp : hasP y.ps x.now dd) : Told37 y := by
    obtain ⟨qs, eq⟩ := ext
    have ok := hx.ok _ (.inl rfl)
    have pl := hx.pl
    refine ⟨fun st hst => ?_, by rw [ep, en, eff_deeds, List.length_append, List.length_append, t.n]; rfl, fun j st e => ?_, by rw [ep, ea, List.length_append]; simp; omega⟩
    · rcases hst with rfl | hst
      · rw [en]
        rw [eq] at hp ⊢
        exact .step (t.h _ (.inl rfl)).app (ok.mono (qs := qs) (Nat.le_refl _)) hd (by rw [refuse_app ok]; exact hr) hp
      · rw [ep] at hst
        rw [eq]
        rcases List.mem_append.mp hst with z | z
        · exact (t.h _ (.inr z)).app
        · rw [List.mem_singleton.mp z]; exact (t.h _ (.inl rfl)).app
    · rw [ep] at e
      by_cases c : j < x.past.length
      · rw [List.getElem?_append_left c] at e
        exact t.c j st e
      · rw [List.getElem?_append_right (by omega)] at e
        have := (List.getElem?_eq_some_iff.mp e).1
        have e0 : j - x.past.length = 0 := by simp at this; omega
        rw [e0] at e
        obtain rfl := Option.some.inj e
        have := t.n
        omega
theorem Told37.done {K : PySem.W.Frag} {H H2 : Hp} {r : Addr} {x y : Ws} {dd : Deed} (t : Told37 x) (hx : x.at K H) (ext : ∃ qs, y.ps = x.ps ++ qs) (dn : Done H2 r x y dd) : Told37 y := by
  rcases dn with ⟨_, e, _⟩ | ⟨_, hd, hr, en, ep, ea, ek, hp⟩
  · rw [e]; exact t
  · exact t.step hx ext hd hr en ep ea ek hp
theorem Told37.undo {x y : Ws} {st : SS} {past : List SS} (t : Told37 x) (e : x.past = past ++ [st]) (en : y.now = st) (ep : y.past = past) (ea : y.ahead = x.ahead ++ [x.now]) (eps : ∃ qs, y.ps = x.ps ++ qs) (ek : y.k = x.k) : Told37 y := by
  obtain ⟨qs, eq⟩ := eps
  have hc : st.deeds.length = past.length := t.c past.length st (by rw [e, List.getElem?_append_right (Nat.le_refl _), Nat.sub_self]; rfl)
  refine ⟨fun s hs => ?_, by rw [ep, en, hc], fun j s es => t.c j s ?_, by have := t.a; rw [e, List.length_append] at this; rw [ep, ea, ek, List.length_append]; simp at this ⊢; omega⟩
  · rw [eq]
    rcases hs with rfl | hs
    · rw [en]; exact (t.h _ (.inr (by rw [e]; simp))).app
    · rw [ep] at hs; exact (t.h _ (.inr (by rw [e]; simp [hs]))).app
  · rw [ep] at es
    rw [e, List.getElem?_append_left (List.getElem?_eq_some_iff.mp es).1]
    exact es
theorem Hist.nil {ps : List Pic} {st : SS} (h : Hist ps st) (e : st.deeds.length = 0) : st = noneYet := by
  cases h with
  | new => rfl
  | step _ _ _ _ _ => rw [eff_deeds, List.length_append] at e; simp at e
theorem Hist.one {ps : List Pic} {st st2 : SS} (h : Hist ps st) (h2 : Hist ps st2) (e : st.deeds = st2.deeds) : st = st2 := by
  induction h generalizing st2 with
  | new => exact (h2.nil (by rw [← e]; rfl)).symm
  | @step s d k _ _ _ _ _ ih =>
    cases h2 with
    | new => rw [eff_deeds] at e; simp [noneYet] at e
    | @step s2 d2 k2 h3 _ _ _ _ =>
      rw [eff_deeds, eff_deeds] at e
      obtain ⟨e1, e2⟩ := List.append_inj' e rfl
      rw [ih h3 e1, (List.cons.inj e2).1]
theorem Hist.deeds {ps : List Pic} {st : SS} (h : Hist ps st) : ∀ dd ∈ st.deeds, isDeed dd.items = true := by
  induction h with
  | new => intro dd hd; simp [noneYet] at hd
  | step _ _ hd _ _ ih =>
    intro dd hm
    rw [eff_deeds] at hm
    rcases List.mem_append.mp hm with z | z
    · exact ih dd z
    · rw [List.mem_singleton.mp z]; exact hd
/-! the same deeds in two stores -/
def SimO (ps qs : List Pic) (r s : Rod) : Prop := s.n = r.n ∧ s.t = r.t ∧ s.l = r.l ∧ ∃ P, IsF ps r.f P ∧ IsF qs s.f P
inductive SimR (ps qs : List Pic) : List Rod → List Rod → Prop
  | nil : SimR ps qs [] []
  | cons {r s : Rod} {rs ss : List Rod} : SimO ps qs r s → SimR ps qs rs ss → SimR ps qs (r :: rs) (s :: ss)
section
variable {ps qs p2 q2 : List Pic} {rs ss rs2 ss2 : List Rod} {r s : Rod} {n : Int}
theorem SimO.app (h : SimO ps qs r s) : SimO (ps ++ p2) (qs ++ q2) r s := let ⟨a, b, c, P, d, e⟩ := h; ⟨a, b, c, P, d.app, e.app⟩
theorem SimR.app (h : SimR ps qs rs ss) : SimR (ps ++ p2) (qs ++ q2) rs ss := by
  induction h with
  | nil => exact .nil
  | cons o _ ih => exact .cons o.app ih
theorem SimR.add (h : SimR ps qs rs ss) (g : SimR ps qs rs2 ss2) : SimR ps qs (rs ++ rs2) (ss ++ ss2) := by
  induction h with
  | nil => exact g
  | cons o _ ih => exact .cons o ih
theorem SimR.one (o : SimO ps qs r s) : SimR ps qs [r] [s] := .cons o .nil
theorem SimR.drop (h : SimR ps qs rs ss) (n : Int) : SimR ps qs (dropR rs n) (dropR ss n) := by
  induction h with
  | nil => exact .nil
  | @cons r s rs ss o _ ih =>
    unfold dropR at ih ⊢
    rw [List.filter_cons, List.filter_cons, o.1]
    split
    · exact .cons o ih
    · exact ih
theorem SimR.set (h : SimR ps qs rs ss) {x y : Rod} (o : SimO ps qs x y) : SimR ps qs (setR rs x) (setR ss y) := by
  induction h with
  | nil => exact .nil
  | @cons r s rs ss o1 _ ih =>
    have e := o.1
    unfold setR at ih ⊢
    rw [e] at ih ⊢
    rw [List.map_cons, List.map_cons, o1.1]
    split
    · exact .cons o ih
    · exact .cons o1 ih
theorem SimR.find (h : SimR ps qs rs ss) (n : Int) : (findR rs n = none ∧ findR ss n = none) ∨ ∃ r s, findR rs n = some r ∧ findR ss n = some s ∧ SimO ps qs r s := by
  induction h with
  | nil => exact .inl ⟨rfl, rfl⟩
  | @cons r s rs ss o _ ih =>
    unfold findR at ih ⊢
    rw [List.find?_cons, List.find?_cons, o.1]
    split
    · exact .inr ⟨r, s, rfl, rfl, o⟩
    · exact ih
theorem SimR.nums (h : SimR ps qs rs ss) : ss.map (·.n) = rs.map (·.n) := by
  induction h with
  | nil => rfl
  | cons o _ ih => rw [List.map_cons, List.map_cons, o.1, ih]
theorem IsF.same {ps : List Pic} {f g : Int} {P Q : Pic} (nd : ps.Nodup) (h : IsF ps f P) (k : IsF ps g Q) : f = g ↔ P = Q := by
  constructor
  · rintro rfl
    exact h.inj k
  · rintro rfl
    rw [h.eq nd, k.eq nd]
end
structure Sim (ps qs : List Pic) (st su : SS) : Prop where
  r : SimR ps qs st.rods su.rods
  c : su.com = st.com
  a0 : su.a0 = st.a0
  a1 : su.a1 = st.a1
  a2 : su.a2 = st.a2
  d : su.deeds = st.deeds
section
variable {ps qs p2 q2 : List Pic} {st su : SS} {dd : Deed}
theorem Sim.app (h : Sim ps qs st su) : Sim (ps ++ p2) (qs ++ q2) st su := ⟨h.r.app, h.c, h.a0, h.a1, h.a2, h.d⟩
theorem Sim.refuse (h : Sim ps qs st su) (n1 : ps.Nodup) (n2 : qs.Nodup) : Mur.refuse qs su dd = Mur.refuse ps st dd := by
  cases dd with
  | gather c t l => rfl
  | pull n k =>
    unfold Mur.refuse
    rcases h.r.find n with ⟨e1, e2⟩ | ⟨r, s, e1, e2, o1, o2, o3, P, hP, hQ⟩
    · simp only [e1, e2]
    · simp only [e1, e2]
      rw [o2, depthF_of hP, depthF_of hQ]
  | bundle a b c d =>
    unfold Mur.refuse
    rcases h.r.find a with ⟨e1, e2⟩ | ⟨r1, s1, e1, e2, _, t1, l1, _⟩ <;> rcases h.r.find b with ⟨f1, f2⟩ | ⟨r2, s2, f1, f2, _, t2, l2, _⟩ <;> rcases h.r.find c with ⟨g1, g2⟩ | ⟨r3, s3, g1, g2, _, t3, l3, _⟩ <;> rcases h.r.find d with ⟨h1, h2⟩ | ⟨r4, s4, h1, h2, _, t4, l4, _⟩ <;> simp only [e1, e2, f1, f2, g1, g2, h1, h2]
    rw [t1, t2, t3, t4, l1, l2, l3, l4]
  | turn n t =>
    unfold Mur.refuse
    rcases h.r.find n with ⟨e1, e2⟩ | ⟨r, s, e1, e2, _⟩ <;> simp only [e1, e2]
  | cut n l =>
    unfold Mur.refuse
    rcases h.r.find n with ⟨e1, e2⟩ | ⟨r, s, e1, e2, _, _, o3, _⟩
    · simp only [e1, e2]
    · simp only [e1, e2]
      rw [o3]
  | fuse a b =>
    unfold Mur.refuse
    rcases h.r.find a with ⟨e1, e2⟩ | ⟨r1, s1, e1, e2, _, t1, _, P1, hP1, hQ1⟩ <;> rcases h.r.find b with ⟨f1, f2⟩ | ⟨r2, s2, f1, f2, _, t2, _, P2, hP2, hQ2⟩ <;> simp only [e1, e2, f1, f2]
    rw [t1, t2]
    have i1 := IsF.same n1 hP2 hP1
    have i2 := IsF.same n2 hQ2 hQ1
    by_cases c : a = b
    · rw [if_pos c, if_pos c]
    · rw [if_neg c, if_neg c]
      have e : (s2.f = s1.f ∧ r2.t = r1.t) ↔ (r2.f = r1.f ∧ r2.t = r1.t) := ⟨fun z => ⟨(i2.trans i1.symm).mp z.1, z.2⟩, fun z => ⟨(i2.trans i1.symm).mpr z.1, z.2⟩⟩
      by_cases c2 : r2.f = r1.f ∧ r2.t = r1.t
      · rw [if_neg (not_not_intro (e.mpr c2)), if_neg (not_not_intro c2)]
      · rw [if_pos (mt e.mp c2), if_pos c2]
  | sell n =>
    unfold Mur.refuse
    rcases h.r.find n with ⟨e1, e2⟩ | ⟨r, s, e1, e2, _⟩ <;> simp only [e1, e2]
  | waste n =>
    unfold Mur.refuse
    rcases h.r.find n with ⟨e1, e2⟩ | ⟨r, s, e1, e2, _⟩ <;> simp only [e1, e2]
theorem SimO.rodD (h : Sim ps qs st su) {n : Int} {r : Rod} (e : findR st.rods n = some r) : SimO ps qs (Mur.rodD st n) (Mur.rodD su n) := by
  unfold Mur.rodD
  rcases h.r.find n with ⟨e1, _⟩ | ⟨r, s, e1, e2, o⟩
  · rw [e1] at e; cases e
  · rw [e1, e2]; exact o
theorem SimO.held {r s : Rod} (o : SimO ps qs r s) : heldL qs s = heldL ps r := by
  obtain ⟨_, t, l, P, h, k⟩ := o
  unfold heldL
  rw [picF_of h, picF_of k, t, l]
theorem Sim.eff (h : Sim ps qs st su) (hr : Mur.refuse ps st dd = none) (hp : hasP ps st dd) (hq : hasP qs su dd) : Sim ps qs (Mur.eff ps st dd) (Mur.eff qs su dd) := by
  unfold Mur.refuse at hr
  cases dd with
  | gather c t l =>
    exact ⟨h.r.add (.one ⟨h.c, rfl, rfl, _, IsF.ix hp, IsF.ix hq⟩), by show su.com + 1 = st.com + 1; rw [h.c], by show su.a0.set _ _ = st.a0.set _ _; rw [h.a0], h.a1, h.a2, by show su.deeds ++ _ = st.deeds ++ _; rw [h.d]⟩
  | pull n k =>
    simp only at hr
    cases e : findR st.rods n with
    | none => rw [e] at hr; cases hr
    | some r =>
    obtain ⟨o1, o2, o3, P, hP, hQ⟩ := SimO.rodD h e
    exact ⟨h.r.set ⟨rfl, by show (Mur.rodD su n).t - k = (Mur.rodD st n).t - k; rw [o2], by show (Mur.rodD su n).l * _ = (Mur.rodD st n).l * _; rw [o3], P, hP, hQ⟩, h.c, h.a0, h.a1, h.a2, by show su.deeds ++ _ = st.deeds ++ _; rw [h.d]⟩
  | bundle a b c d =>
    simp only at hr
    cases e1 : findR st.rods a with
    | none => rw [e1] at hr; cases hr
    | some r1 =>
    cases e2 : findR st.rods b with
    | none => rw [e1, e2] at hr; cases hr
    | some r2 =>
    cases e3 : findR st.rods c with
    | none => rw [e1, e2, e3] at hr; cases hr
    | some r3 =>
    cases e4 : findR st.rods d with
    | none => rw [e1, e2, e3, e4] at hr; cases hr
    | some r4 =>
    obtain ⟨_, t1, l1, P1, hP1, hQ1⟩ := SimO.rodD h e1
    obtain ⟨_, _, _, P2, hP2, hQ2⟩ := SimO.rodD h e2
    obtain ⟨_, _, _, P3, hP3, hQ3⟩ := SimO.rodD h e3
    obtain ⟨_, _, _, P4, hP4, hQ4⟩ := SimO.rodD h e4
    have hp : Pic.mk (picF ps (Mur.rodD st a).f) (picF ps (Mur.rodD st b).f) (picF ps (Mur.rodD st c).f) (picF ps (Mur.rodD st d).f) ∈ ps := hp
    have hq : Pic.mk (picF qs (Mur.rodD su a).f) (picF qs (Mur.rodD su b).f) (picF qs (Mur.rodD su c).f) (picF qs (Mur.rodD su d).f) ∈ qs := hq
    have eq : Pic.mk (picF qs (Mur.rodD su a).f) (picF qs (Mur.rodD su b).f) (picF qs (Mur.rodD su c).f) (picF qs (Mur.rodD su d).f) = Pic.mk (picF ps (Mur.rodD st a).f) (picF ps (Mur.rodD st b).f) (picF ps (Mur.rodD st c).f) (picF ps (Mur.rodD st d).f) := by
      rw [picF_of hP1, picF_of hP2, picF_of hP3, picF_of hP4, picF_of hQ1, picF_of hQ2, picF_of hQ3, picF_of hQ4]
    refine ⟨((((h.r.drop a).drop b).drop c).drop d).add (.one ⟨h.c, ?_, l1, _, IsF.ix hp, ?_⟩), by show su.com + 1 = st.com + 1; rw [h.c], h.a0, h.a1, h.a2, by show su.deeds ++ _ = st.deeds ++ _; rw [h.d]⟩
    · show (Mur.rodD su a).t + 1 = (Mur.rodD st a).t + 1
      rw [t1]
    · have := IsF.ix hq
      rw [eq] at this
      rw [← eq] at this
      show IsF qs ((ix qs (Pic.mk (picF qs (Mur.rodD su a).f) (picF qs (Mur.rodD su b).f) (picF qs (Mur.rodD su c).f) (picF qs (Mur.rodD su d).f)) : Nat) : Int) _
      rw [← eq]
      exact this
  | turn n t =>
    simp only at hr
    cases e : findR st.rods n with
    | none => rw [e] at hr; cases hr
    | some r =>
    obtain ⟨o1, o2, o3, P, hP, hQ⟩ := SimO.rodD h e
    have hp : (picF ps (Mur.rodD st n).f).turn t ∈ ps := hp
    have hq : (picF qs (Mur.rodD su n).f).turn t ∈ qs := hq
    refine ⟨h.r.set ⟨rfl, o2, o3, P.turn t, ?_, ?_⟩, h.c, h.a0, h.a1, h.a2, by show su.deeds ++ _ = st.deeds ++ _; rw [h.d]⟩
    · show IsF ps ((ix ps ((picF ps (Mur.rodD st n).f).turn t) : Nat) : Int) _
      rw [picF_of hP] at hp ⊢
      exact IsF.ix hp
    · show IsF qs ((ix qs ((picF qs (Mur.rodD su n).f).turn t) : Nat) : Int) _
      rw [picF_of hQ] at hq ⊢
      exact IsF.ix hq
  | cut n l =>
    simp only at hr
    cases e : findR st.rods n with
    | none => rw [e] at hr; cases hr
    | some r =>
    obtain ⟨o1, o2, o3, P, hP, hQ⟩ := SimO.rodD h e
    have a1 : SimO ps qs ⟨n, (Mur.rodD st n).f, (Mur.rodD st n).t, l⟩ ⟨n, (Mur.rodD su n).f, (Mur.rodD su n).t, l⟩ := ⟨rfl, o2, rfl, P, hP, hQ⟩
    have a2 : SimO ps qs ⟨st.com, (Mur.rodD st n).f, (Mur.rodD st n).t, (Mur.rodD st n).l - l⟩ ⟨su.com, (Mur.rodD su n).f, (Mur.rodD su n).t, (Mur.rodD su n).l - l⟩ := ⟨h.c, o2, by show (Mur.rodD su n).l - l = (Mur.rodD st n).l - l; rw [o3], P, hP, hQ⟩
    exact ⟨(h.r.set a1).add (.one a2), by show su.com + 1 = st.com + 1; rw [h.c], h.a0, h.a1, h.a2, by show su.deeds ++ _ = st.deeds ++ _; rw [h.d]⟩
  | fuse a b =>
    simp only at hr
    cases e1 : findR st.rods a with
    | none => rw [e1] at hr; cases hr
    | some r1 =>
    cases e2 : findR st.rods b with
    | none => rw [e1, e2] at hr; cases hr
    | some r2 =>
    obtain ⟨o1, o2, o3, P, hP, hQ⟩ := SimO.rodD h e1
    obtain ⟨_, _, l2, _⟩ := SimO.rodD h e2
    exact ⟨(h.r.drop b).set ⟨rfl, o2, by show (Mur.rodD su a).l + (Mur.rodD su b).l = (Mur.rodD st a).l + (Mur.rodD st b).l; rw [o3, l2], P, hP, hQ⟩, h.c, h.a0, h.a1, h.a2, by show su.deeds ++ _ = st.deeds ++ _; rw [h.d]⟩
  | sell n =>
    simp only at hr
    cases e : findR st.rods n with
    | none => rw [e] at hr; cases hr
    | some r =>
    have o := SimO.rodD h e
    exact ⟨h.r.drop n, h.c, h.a0, by show addL su.a1 _ = addL st.a1 _; rw [h.a1, o.held], h.a2, by show su.deeds ++ _ = st.deeds ++ _; rw [h.d]⟩
  | waste n =>
    simp only at hr
    cases e : findR st.rods n with
    | none => rw [e] at hr; cases hr
    | some r =>
    have o := SimO.rodD h e
    exact ⟨h.r.drop n, h.c, h.a0, h.a1, by show addL su.a2 _ = addL st.a2 _; rw [h.a2, o.held], by show su.deeds ++ _ = st.deeds ++ _; rw [h.d]⟩
theorem Hist.sim (h : Hist ps st) (k : Hist qs su) (e : su.deeds = st.deeds) (n1 : ps.Nodup) (n2 : qs.Nodup) : Sim ps qs st su := by
  induction h generalizing su with
  | new =>
    obtain rfl := k.nil (by rw [e]; rfl)
    exact ⟨.nil, rfl, rfl, rfl, rfl, rfl⟩
  | @step s d k1 h1 ok hd hr hp ih =>
    cases k with
    | new => rw [eff_deeds] at e; simp [noneYet] at e
    | @step s2 d2 k2 h2 ok2 hd2 hr2 hp2 =>
      rw [eff_deeds, eff_deeds] at e
      obtain ⟨e1, e2⟩ := List.append_inj' e rfl
      obtain rfl := (List.cons.inj e2).1
      exact (ih h2 e1).eff hr hp hp2
/-- the stand ahead of a deed of the history -/
theorem Hist.ahead (h : Hist ps st) : ∀ {i : Nat} {dd : Deed}, st.deeds[i]? = some dd → ∃ s k, Hist ps s ∧ StOk ps k s ∧ s.deeds = st.deeds.take i ∧ isDeed dd.items = true ∧ refuse ps s dd = none ∧ hasP ps s dd := by
  induction h with
  | new => intro i dd e; simp [noneYet] at e
  | @step s d k h ok hd hr hp ih =>
    intro i dd e
    rw [eff_deeds] at e ⊢
    by_cases c : i < s.deeds.length
    · rw [List.getElem?_append_left c] at e
      obtain ⟨s2, k2, a, b, c2, r⟩ := ih e
      exact ⟨s2, k2, a, b, by rw [c2, List.take_append_of_le_length (Nat.le_of_lt c)], r⟩
    · rw [List.getElem?_append_right (by omega)] at e
      have := (List.getElem?_eq_some_iff.mp e).1
      have e0 : i = s.deeds.length := by simp at this; omega
      rw [e0, Nat.sub_self] at e
      obtain rfl := Option.some.inj e
      exact ⟨s, k, h, ok, by rw [e0, List.take_append_of_le_length (Nat.le_refl _), List.take_length], hd, hr, hp⟩
end
def badsL : List Str := ["", "gather", "sell 01", "sell  1", "sell 99999", "gather 1 13 1", "Gather 1 1 1", "waste 0", "pull 1 0", "gather 1 1 1\nsell", "gather 10 1 1", "gather 1 1 0", "turn 1 8", "fuse 1 1", "bundle 1 1 2 3", "pull 1 13", "cut 1 0", "gather 1 12 1\nfuse 1"]
def badsS (n : Nat) : List Str := if n = 9 then ["gather 1 1 1", "sell"] else if n = 17 then ["gather 1 12 1", "fuse 1"] else [badsL.getD n ""]
theorem joinL_cons {S p : List Nat} {r : List (List Nat)} (h : r ≠ []) : TL.joinL S (p :: r) = p ++ (S ++ TL.joinL S r) := by
  cases r with
  | nil => exact absurd rfl h
  | cons q r => rfl
theorem joinL_two {S a b : List Nat} {zs : List (List Nat)} : ∀ xs : List (List Nat), TL.joinL S (xs ++ (a ++ (S ++ b)) :: zs) = TL.joinL S (xs ++ a :: b :: zs)
  | [] => by
    cases zs with
    | nil => rfl
    | cons z zs =>
      show TL.joinL S ((a ++ (S ++ b)) :: z :: zs) = TL.joinL S (a :: b :: z :: zs)
      rw [joinL_cons (p := a ++ (S ++ b)) (r := z :: zs) (by simp), joinL_cons (p := a) (r := b :: z :: zs) (by simp), joinL_cons (p := b) (r := z :: zs) (by simp), List.append_assoc, List.append_assoc]
  | x :: xs => by rw [List.cons_append, List.cons_append, joinL_cons (by simp), joinL_cons (by simp), joinL_two xs]
theorem joinL_mem {S : List Nat} {c : Nat} : ∀ {ps : List (List Nat)}, c ∈ TL.joinL S ps → c ∈ S ∨ ∃ p ∈ ps, c ∈ p
  | [], h => by cases h
  | [p], h => .inr ⟨p, by simp, h⟩
  | p :: q :: r, h => by
    rw [joinL_cons (by simp)] at h
    rcases List.mem_append.mp h with h | h
    · exact .inr ⟨p, by simp, h⟩
    rcases List.mem_append.mp h with h | h
    · exact .inl h
    · rcases joinL_mem h with h | ⟨x, hx, h⟩
      · exact .inl h
      · exact .inr ⟨x, List.mem_cons_of_mem _ hx, h⟩
theorem name_nl (dd : Deed) : 10 ∉ TL.tl dd.name := by cases dd <;> (simp only [Deed.name]; decide +kernel)
theorem line_nl {dd : Deed} (h : isDeed dd.items = true) : 10 ∉ TL.tl dd.line := by
  unfold Deed.line
  rw [TL.join_eq, TL.tl_join]
  intro hc
  rcases joinL_mem hc with h1 | ⟨p, hp, hc⟩
  · rw [tl_blank] at h1; simp at h1
  · obtain ⟨z, hz, rfl⟩ := List.mem_map.mp hp
    rcases List.mem_cons.mp hz with rfl | hz
    · exact name_nl dd hc
    · obtain ⟨x, hx, rfl⟩ := List.mem_map.mp hz
      rw [tl_numT (deed_nums h x hx).1] at hc
      exact TL.numL_free (.inl (by decide)) hc
theorem tl_nl : TL.tl ("\n" : Str) = [10] := by decide +kernel
theorem join_two (a b : Str) (xs zs : List Str) : Txt.join "\n" (xs ++ (a ++ "\n" ++ b) :: zs) = Txt.join "\n" (xs ++ a :: b :: zs) := by
  have e : [Txt.join "\n" (xs ++ (a ++ "\n" ++ b) :: zs)].map TL.tl = [Txt.join "\n" (xs ++ a :: b :: zs)].map TL.tl := by
    simp only [List.map_cons, List.map_nil]
    rw [TL.join_eq, TL.join_eq, TL.tl_join, TL.tl_join, tl_nl, List.map_append, List.map_append, List.map_cons, List.map_cons, List.map_cons, TL.tl_append, TL.tl_append, tl_nl, List.append_assoc, joinL_two]
  exact (List.cons.inj (TL.map_tl_inj e)).1
theorem join_bads {n : Nat} (xs zs : List Str) : Txt.join "\n" (xs ++ badsL.getD n "" :: zs) = Txt.join "\n" (xs ++ (badsS n ++ zs)) := by
  unfold badsS
  by_cases c : n = 9
  · subst c
    rw [if_pos rfl, show badsL.getD 9 "" = "gather 1 1 1" ++ "\n" ++ "sell" by decide +kernel, join_two]; rfl
  · rw [if_neg c]
    by_cases c2 : n = 17
    · subst c2
      rw [if_pos rfl, show badsL.getD 17 "" = "gather 1 12 1" ++ "\n" ++ "fuse 1" by decide +kernel, join_two]; rfl
    · rw [if_neg c2]; rfl
theorem badsS_nl : ∀ n < 18, ∀ z ∈ badsS n, 10 ∉ TL.tl z := by decide +kernel
theorem split_lines {ls : List Str} (hne : ls ≠ []) (h : ∀ z ∈ ls, 10 ∉ TL.tl z) : Txt.split (Txt.join "\n" ls) "\n" = ls := TL.split_join (s := 10) (S := []) tl_nl (by decide +kernel) hne h
theorem lines_join {ls : List Str} (hne : ls ≠ []) (h1 : ls ≠ ([""] : List Str)) (h : ∀ z ∈ ls, 10 ∉ TL.tl z) : linesOf (Txt.join "\n" ls) = ls := by
  unfold linesOf
  have e := split_lines hne h
  rw [if_neg (fun z => h1 ?_), e]
  rw [z] at e
  rw [← e]
  decide +kernel
theorem Hist.com {ps : List Pic} {st : SS} (h : Hist ps st) : st.com ≤ (st.deeds.length : Nat) + 1 := by
  induction h with
  | new => simp [noneYet]
  | @step s d k _ _ _ _ _ ih =>
    rw [eff_deeds, List.length_append]
    cases d <;> (simp only [Mur.eff, List.length_cons, List.length_nil]; omega)
theorem Hist.ok {ps : List Pic} {st : SS} (h : Hist ps st) : ∃ k, StOk ps k st := by
  cases h with
  | new =>
    have z10 : SumOk 0 (List.replicate 10 0) := ⟨by simp, fun x hx => by
      rw [List.mem_replicate] at hx
      rw [hx.2]
      exact ⟨Int.le_refl _, pow2 _⟩⟩
    have o : StOk [] 0 noneYet := ⟨by simp [noneYet], by simp [noneYet], by simp [noneYet], by simp [noneYet], by simp [noneYet], by simp [noneYet], by simp [noneYet], z10, z10, z10, by simp [noneYet]⟩
    exact ⟨0, o.mono (qs := ps) (Nat.le_refl _)⟩
  | @step s d k _ ok _ hr hp =>
    have := eff_ok (qs := []) ok hr (by rw [List.append_nil]; exact hp)
    rw [List.append_nil] at this
    exact ⟨k + 1, this⟩
theorem bad_of {ps : List Pic} {st : SS} {z : Str} (dd : Deed) (hr : readOf z = some (dd.name, dd.args)) (h : refuse ps st dd ≠ none) : BadL ps st z := .inr ⟨dd, hr, h⟩
theorem noRod_low {ps : List Pic} {k : Nat} {st : SS} (ok : StOk ps k st) : findR st.rods 0 = none := by
  cases e : findR st.rods 0 with
  | none => rfl
  | some r =>
    have h := findR_n e
    have := (ok.rod r h.2).1.one
    omega
theorem noRod_high {ps : List Pic} {st : SS} (h : Hist ps st) (hl : st.deeds.length < 90000) : findR st.rods 99999 = none := by
  obtain ⟨k, ok⟩ := h.ok
  cases e : findR st.rods 99999 with
  | none => rfl
  | some r =>
    have h1 := findR_n e
    have h2 := (ok.rod r h1.2).2
    have h3 := h.com
    omega
/-- the bad line of each text, and good ones ahead of it -/
theorem bads_at {n : Nat} (hn : n < 18) : ∃ pre z, badsS n = pre ++ [z] ∧ pre.length = (if n = 9 ∨ n = 17 then 1 else 0) ∧ (∀ y ∈ pre, ∀ ps st, ¬ BadL ps st y) ∧ ∀ ps st, Hist ps st → st.deeds.length < 90000 → BadL ps st z := by
  have good : ∀ (y : Str) (dd : Deed), readOf y = some (dd.name, dd.args) → (∀ ps st, refuse ps st dd = none) → ∀ ps st, ¬ BadL ps st y := fun y dd hr h ps st b => by
    rcases b with b | ⟨d2, b, b2⟩
    · rw [hr] at b; cases b
    · rw [hr] at b
      injection b with b
      injection b with b3 b4
      have e : dd = d2 := items_inj (by unfold Deed.items; rw [b3, b4])
      rw [← e] at b2
      exact b2 (h ps st)
  have one : ∀ z : Str, badsS n = [z] → ¬ (n = 9 ∨ n = 17) → (∀ ps st, Hist ps st → st.deeds.length < 90000 → BadL ps st z) → ∃ pre z, badsS n = pre ++ [z] ∧ pre.length = (if n = 9 ∨ n = 17 then 1 else 0) ∧ (∀ y ∈ pre, ∀ ps st, ¬ BadL ps st y) ∧ ∀ ps st, Hist ps st → st.deeds.length < 90000 → BadL ps st z :=
    fun z e c h => ⟨[], z, e, by rw [if_neg c]; rfl, by simp, h⟩
  have c : n = 0 ∨ n = 1 ∨ n = 2 ∨ n = 3 ∨ n = 4 ∨ n = 5 ∨ n = 6 ∨ n = 7 ∨ n = 8 ∨ n = 9 ∨ n = 10 ∨ n = 11 ∨ n = 12 ∨ n = 13 ∨ n = 14 ∨ n = 15 ∨ n = 16 ∨ n = 17 := by omega
  rcases c with rfl | rfl | rfl | rfl | rfl | rfl | rfl | rfl | rfl | rfl | rfl | rfl | rfl | rfl | rfl | rfl | rfl | rfl
  · exact one "" rfl (by decide) fun ps st _ _ => .inl (by decide +kernel)
  · exact one "gather" rfl (by decide) fun ps st _ _ => .inl (by decide +kernel)
  · exact one "sell 01" rfl (by decide) fun ps st _ _ => .inl (by decide +kernel)
  · exact one "sell  1" rfl (by decide) fun ps st _ _ => .inl (by decide +kernel)
  · exact one "sell 99999" rfl (by decide) fun ps st h hl => bad_of (.sell 99999) (by decide +kernel) (by unfold refuse; simp only [noRod_high h hl]; simp)
  · exact one "gather 1 13 1" rfl (by decide) fun ps st _ _ => bad_of (.gather 1 13 1) (by decide +kernel) (by unfold refuse; simp)
  · exact one "Gather 1 1 1" rfl (by decide) fun ps st _ _ => .inl (by decide +kernel)
  · exact one "waste 0" rfl (by decide) fun ps st h _ => bad_of (.waste 0) (by decide +kernel) (by obtain ⟨k, ok⟩ := h.ok; unfold refuse; simp only [noRod_low ok]; simp)
  · exact one "pull 1 0" rfl (by decide) fun ps st h _ => bad_of (.pull 1 0) (by decide +kernel) (by unfold refuse; cases e : findR st.rods 1 <;> simp [e])
  · exact ⟨["gather 1 1 1"], "sell", rfl, rfl, fun y hy => by
      rw [List.mem_singleton.mp hy]
      exact good _ (.gather 1 1 1) (by decide +kernel) fun ps st => by unfold refuse; simp, fun ps st _ _ => .inl (by decide +kernel)⟩
  · exact one "gather 10 1 1" rfl (by decide) fun ps st _ _ => bad_of (.gather 10 1 1) (by decide +kernel) (by unfold refuse; simp)
  · exact one "gather 1 1 0" rfl (by decide) fun ps st _ _ => bad_of (.gather 1 1 0) (by decide +kernel) (by unfold refuse; simp)
  · exact one "turn 1 8" rfl (by decide) fun ps st h _ => bad_of (.turn 1 8) (by decide +kernel) (by unfold refuse; cases e : findR st.rods 1 <;> simp [e])
  · exact one "fuse 1 1" rfl (by decide) fun ps st h _ => bad_of (.fuse 1 1) (by decide +kernel) (by unfold refuse; cases e : findR st.rods 1 <;> simp [e])
  · exact one "bundle 1 1 2 3" rfl (by decide) fun ps st h _ => bad_of (.bundle 1 1 2 3) (by decide +kernel) (by unfold refuse; cases e : findR st.rods 1 <;> cases e2 : findR st.rods 2 <;> cases e3 : findR st.rods 3 <;> simp [e, e2, e3])
  · exact one "pull 1 13" rfl (by decide) fun ps st h _ => bad_of (.pull 1 13) (by decide +kernel) (by
      obtain ⟨k, ok⟩ := h.ok
      unfold refuse
      cases e : findR st.rods 1 with
      | none => simp [e]
      | some r =>
        have h1 := (ok.rod r (findR_n e).2).1.thin
        have h2 : (0 : Int) ≤ depthF ps r.f := by unfold depthF; omega
        simp only [e]
        rw [if_neg (by decide), if_pos (by omega)]
        simp)
  · exact one "cut 1 0" rfl (by decide) fun ps st h _ => bad_of (.cut 1 0) (by decide +kernel) (by unfold refuse; cases e : findR st.rods 1 <;> simp [e])
  · exact ⟨["gather 1 12 1"], "fuse 1", rfl, rfl, fun y hy => by
      rw [List.mem_singleton.mp hy]
      exact good _ (.gather 1 12 1) (by decide +kernel) fun ps st => by unfold refuse; simp, fun ps st _ _ => .inl (by decide +kernel)⟩
/-- the page is refused at line n, in a store of its own -/
def BadAt (text : Str) (n : Int) : Prop := ∃ (i : Nat) (z : Str), (linesOf text)[i]? = some z ∧ n = ((i + 1 : Nat) : Int) ∧ (∀ ps st, ps.Nodup → Hist ps st → LinesD ((linesOf text).take i) st.deeds → BadL ps st z) ∧
  ∀ (j : Nat) (y : Str), j < i → (linesOf text)[j]? = some y → ∀ ps st, ps.Nodup → Hist ps st → LinesD ((linesOf text).take j) st.deeds → ¬ BadL ps st y
theorem LinesD.get {ls : List Str} {ds : List Deed} (h : LinesD ls ds) {i : Nat} {z : Str} (e : ls[i]? = some z) : ∃ dd, ds[i]? = some dd ∧ readOf z = some (dd.name, dd.args) := by
  have hi := (List.getElem?_eq_some_iff.mp e).1
  have e2 : ds[i]? = some (ds[i]'(by rw [← h.1]; exact hi)) := List.getElem?_eq_getElem _
  exact ⟨_, e2, h.2 i z _ e e2⟩
theorem LinesD.take {ls : List Str} {ds : List Deed} (h : LinesD ls ds) (i : Nat) : LinesD (ls.take i) (ds.take i) := ⟨by rw [List.length_take, List.length_take, h.1], fun j z dd h1 h2 => by
  have hj := (List.getElem?_eq_some_iff.mp h1).1
  rw [List.length_take] at hj
  rw [List.getElem?_take_of_lt (by omega)] at h1 h2
  exact h.2 j z dd h1 h2⟩
theorem items_of {dd d2 : Deed} (h1 : dd.name = d2.name) (h2 : dd.args = d2.args) : dd = d2 := items_inj (by unfold Deed.items; rw [h1, h2])
/-- a line that was done is not bad -/
theorem not_bad {ps : List Pic} {st : SS} {ls : List Str} {i : Nat} {z : Str} (h : Hist ps st) (hl : LinesD ls st.deeds) (e : ls[i]? = some z) (b : ∀ s, Hist ps s → LinesD (ls.take i) s.deeds → BadL ps s z) : False := by
  obtain ⟨dd, e2, hr⟩ := hl.get e
  obtain ⟨s, k, hs, ok, ed, _, hn, _⟩ := h.ahead e2
  rcases b s hs (by rw [ed]; exact hl.take i) with w | ⟨d2, w, w2⟩
  · rw [hr] at w; cases w
  · rw [hr] at w
    injection w with w
    injection w with w3 w4
    rw [← items_of w3 w4] at w2
    exact w2 hn
theorem BadAt.at {text : Str} {n : Int} (b : BadAt text n) {ps : List Pic} {st : SS} (nd : ps.Nodup) (h : Hist ps st) : ¬ LinesD (linesOf text) st.deeds ∧ ∀ (i : Nat) (z : Str), (linesOf text)[i]? = some z → LinesD ((linesOf text).take i) st.deeds → BadL ps st z → n = ((i + 1 : Nat) : Int) := by
  obtain ⟨m, y, e, en, hb, hg⟩ := b
  refine ⟨fun hl => not_bad h hl e fun s hs hl2 => hb ps s nd hs hl2, fun i z ez hl bz => ?_⟩
  by_cases c : i < m
  · exact absurd bz (hg i z c ez ps st nd h hl)
  · by_cases c2 : i = m
    · rw [c2]; exact en
    · exfalso
      have e' : ((linesOf text).take i)[m]? = some y := by rw [List.getElem?_take_of_lt (by omega)]; exact e
      refine not_bad h hl e' fun s hs hl2 => hb ps s nd hs ?_
      rw [List.take_take, Nat.min_eq_left (by omega)] at hl2
      exact hl2
theorem LinesD.one {ls : List Str} {ds d2 : List Deed} (h : LinesD ls ds) (g : LinesD ls d2) : ds = d2 := by
  apply List.ext_getElem?
  intro i
  by_cases c : i < ls.length
  · obtain ⟨x, e1, r1⟩ := h.get (List.getElem?_eq_getElem c)
    obtain ⟨y, e2, r2⟩ := g.get (List.getElem?_eq_getElem c)
    rw [e1, e2]
    rw [r1] at r2
    injection r2 with r2
    injection r2 with r3 r4
    rw [items_of r3 r4]
  · rw [List.getElem?_eq_none (by rw [← h.1]; omega), List.getElem?_eq_none (by rw [← g.1]; omega)]
theorem lines_deeds {ds : List Deed} (h : ∀ dd ∈ ds, isDeed dd.items = true) : LinesD (ds.map Deed.line) ds := ⟨by rw [List.length_map], fun i z dd h1 h2 => by
  rw [List.getElem?_map, h2] at h1
  obtain rfl := Option.some.inj h1
  exact read_back (h dd (List.mem_of_getElem? h2))⟩
/-- a line of a deed that was done is good in any store -/
theorem good_line {ps p0 : List Pic} {st s0 : SS} (h0 : Hist p0 s0) (n0 : p0.Nodup) (h : Hist ps st) (nd : ps.Nodup) {j : Nat} {dd : Deed} (e : s0.deeds[j]? = some dd) (hl : LinesD ((s0.deeds.map Deed.line).take j) st.deeds) : ¬ BadL ps st dd.line := by
  obtain ⟨s, k, hs, ok, ed, hd, hr, hp⟩ := h0.ahead e
  have e1 : st.deeds = s.deeds := by
    rw [ed]
    refine hl.one ?_
    have := (lines_deeds h0.deeds).take j
    exact this
  have sim := hs.sim h e1 n0 nd
  rintro (b | ⟨d2, b, b2⟩)
  · rw [read_back hd] at b; cases b
  · rw [read_back hd] at b
    injection b with b
    injection b with b3 b4
    rw [← items_of b3 b4, sim.refuse n0 nd] at b2
    exact b2 hr
theorem badAt_of {p0 : List Pic} {s0 : SS} (h0 : Hist p0 s0) (n0 : p0.Nodup) {text : Str} {a : Nat} {pre R : List Str} {z : Str} (ha : a ≤ s0.deeds.length) (hl : s0.deeds.length < 1000) (hp : pre.length ≤ 1000) (e : linesOf text = (s0.deeds.map Deed.line).take a ++ (pre ++ z :: R))
    (hg : ∀ y ∈ pre, ∀ ps st, ¬ BadL ps st y) (hb : ∀ ps st, Hist ps st → st.deeds.length < 90000 → BadL ps st z) : BadAt text ((a : Int) + 1 + (pre.length : Nat)) := by
  have hla : ((s0.deeds.map Deed.line).take a).length = a := by rw [List.length_take, List.length_map]; omega
  refine ⟨a + pre.length, z, ?_, by omega, fun ps st _ hs hld => hb ps st hs ?_, fun j y hj hy ps st nd hs hld => ?_⟩
  · rw [e, List.getElem?_append_right (by omega), List.getElem?_append_right (by omega), hla, show a + pre.length - a - pre.length = 0 by omega]; rfl
  · rw [← hld.1, List.length_take]; omega
  · rw [e] at hy hld
    by_cases c : j < a
    · rw [List.getElem?_append_left (by omega), List.getElem?_take_of_lt c, List.getElem?_map] at hy
      cases ed : s0.deeds[j]? with
      | none => rw [ed] at hy; cases hy
      | some dd =>
        rw [ed] at hy
        obtain rfl := Option.some.inj hy
        rw [List.take_append_of_le_length (by omega), List.take_take, Nat.min_eq_left (by omega)] at hld
        exact good_line h0 n0 hs nd ed hld
    · rw [List.getElem?_append_right (by omega), List.getElem?_append_left (by omega)] at hy
      exact hg y (List.mem_of_getElem? hy) ps st
theorem bads_count : ∀ n < 18, Txt.count (badsL.getD n "") "\n" = (if n = 9 ∨ n = 17 then 1 else 0) := by decide +kernel
theorem bads_len : ∀ n < 18, (badsL.getD n "").length ≤ 100 ∧ (∀ z ∈ badsS n, z.length ≤ 100) ∧ (badsS n).length ≤ 2 := by decide +kernel
theorem spoilt_at {p0 : List Pic} {s0 : SS} (h0 : Hist p0 s0) (n0 : p0.Nodup) (hl : s0.deeds.length ≤ 100) {a n m : Nat} (ha : a ≤ s0.deeds.length) (hn : n < 18) (hm : m < 18) {R : List Str} (hR : R = [] ∨ R = [badsL.getD m ""]) (hx : ¬ ((s0.deeds = [] ∧ R = []) ∧ badsL.getD n "" = "")) {text : Str}
    (et : text = Txt.join "\n" ((s0.deeds.map Deed.line).take a ++ (badsL.getD n "" :: (R ++ (s0.deeds.map Deed.line).drop a)))) :
    BadAt text ((a : Int) + 1 + ((if n = 9 ∨ n = 17 then 1 else 0 : Nat) : Int)) ∧ (linesOf text).length < 900 ∧ ∀ z ∈ linesOf text, z.length ≤ 50000 := by
  obtain ⟨RS, eR, lR, nR, hRS⟩ : ∃ RS : List Str, (∀ xs ys : List Str, Txt.join "\n" (xs ++ (R ++ ys)) = Txt.join "\n" (xs ++ (RS ++ ys))) ∧ (∀ z ∈ RS, z.length ≤ 100) ∧ (∀ z ∈ RS, 10 ∉ TL.tl z) ∧ RS.length ≤ 2 ∧ (RS = [] → R = []) := by
    rcases hR with rfl | rfl
    · exact ⟨[], fun _ _ => rfl, by simp, by simp, by simp, fun _ => rfl⟩
    · refine ⟨badsS m, fun xs ys => join_bads xs ys, (bads_len m hm).2.1, badsS_nl m hm, (bads_len m hm).2.2, fun z => ?_⟩
      obtain ⟨pre, y, e, _⟩ := bads_at hm
      rw [e] at z; simp at z
  obtain ⟨pre, z, eb, lp, hg, hb⟩ := bads_at hn
  have el : linesOf text = (s0.deeds.map Deed.line).take a ++ (badsS n ++ (RS ++ (s0.deeds.map Deed.line).drop a)) := by
    rw [et, join_bads, ← List.append_assoc, eR, List.append_assoc]
    refine lines_join ?_ (fun w => hx ?_) fun y hy => ?_
    · rw [eb]; simp
    · have w2 := congrArg List.length w
      have e0 : badsS n ≠ [] := by rw [eb]; simp
      have e1 : (s0.deeds.map Deed.line).take a = [] ∧ badsS n = [("" : Str)] ∧ RS = [] ∧ (s0.deeds.map Deed.line).drop a = [] := by
        have l1 : 0 < (badsS n).length := List.length_pos_iff.mpr e0
        simp only [List.length_append, List.length_cons, List.length_nil] at w2
        have z1 : (s0.deeds.map Deed.line).take a = [] := List.length_eq_zero_iff.mp (by omega)
        have z2 : RS = [] := List.length_eq_zero_iff.mp (by omega)
        have z3 : (s0.deeds.map Deed.line).drop a = [] := List.length_eq_zero_iff.mp (by omega)
        rw [z1, z2, z3, List.nil_append, List.append_nil, List.append_nil] at w
        exact ⟨z1, w, z2, z3⟩
      obtain ⟨z1, z2, z3, z4⟩ := e1
      refine ⟨⟨?_, hRS.2 z3⟩, ?_⟩
      · have := List.take_append_drop a (s0.deeds.map Deed.line)
        rw [z1, z4] at this
        exact List.map_eq_nil_iff.mp this.symm
      · have key : ∀ n < 18, badsS n = [("" : Str)] → badsL.getD n "" = "" := by decide +kernel
        exact key n hn z2
    · rcases List.mem_append.mp hy with hy | hy
      · obtain ⟨dd, hd, rfl⟩ := List.mem_map.mp (List.mem_of_mem_take hy)
        exact line_nl (h0.deeds dd hd)
      rcases List.mem_append.mp hy with hy | hy
      · exact badsS_nl n hn y hy
      rcases List.mem_append.mp hy with hy | hy
      · exact nR y hy
      · obtain ⟨dd, hd, rfl⟩ := List.mem_map.mp (List.mem_of_mem_drop hy)
        exact line_nl (h0.deeds dd hd)
  refine ⟨?_, ?_, fun y hy => ?_⟩
  · rw [← lp]
    refine badAt_of (R := RS ++ (s0.deeds.map Deed.line).drop a) h0 n0 ha (by omega) (by rw [lp]; split <;> omega) ?_ hg hb
    rw [el, eb]; simp
  · rw [el]
    have := (bads_len n hn).2.2
    simp only [List.length_append, List.length_take, List.length_drop, List.length_map]
    omega
  · rw [el] at hy
    have hline : ∀ dd ∈ s0.deeds, dd.line.length ≤ 50000 := fun dd hd => Nat.le_trans (line_len (h0.deeds dd hd)) (by decide)
    rcases List.mem_append.mp hy with hy | hy
    · obtain ⟨dd, hd, rfl⟩ := List.mem_map.mp (List.mem_of_mem_take hy)
      exact hline dd hd
    rcases List.mem_append.mp hy with hy | hy
    · exact Nat.le_trans ((bads_len n hn).2.1 y hy) (by decide)
    rcases List.mem_append.mp hy with hy | hy
    · exact Nat.le_trans (lR y hy) (by decide)
    · obtain ⟨dd, hd, rfl⟩ := List.mem_map.mp (List.mem_of_mem_drop hy)
      exact hline dd hd
/-- a page that begins with rods that do not fit -/
def unfL : List Str := ["gather 1 2 1\ngather 1 1 1\nfuse 1 2", "gather 1 1 1\ngather 2 1 1\nfuse 2 1", "gather 1 1 1\ngather 2 1 1\ngather 3 1 1\ngather 4 1 2\nbundle 1 2 3 4", "gather 1 12 1\ngather 2 12 1\ngather 3 12 1\ngather 4 12 1\nbundle 4 1 2 3"]
def unfD : Nat → List Deed × Deed
  | 0 => ([.gather 1 2 1, .gather 1 1 1], .fuse 1 2)
  | 1 => ([.gather 1 1 1, .gather 2 1 1], .fuse 2 1)
  | 2 => ([.gather 1 1 1, .gather 2 1 1, .gather 3 1 1, .gather 4 1 2], .bundle 1 2 3 4)
  | _ => ([.gather 1 12 1, .gather 2 12 1, .gather 3 12 1, .gather 4 12 1], .bundle 4 1 2 3)
theorem Hist.snoc {ps : List Pic} {st : SS} {ds : List Deed} {d : Deed} (h : Hist ps st) (e : st.deeds = ds ++ [d]) : ∃ s, Hist ps s ∧ s.deeds = ds ∧ st = Mur.eff ps s d ∧ hasP ps s d := by
  cases h with
  | new => simp [noneYet] at e
  | @step s d2 k h1 _ _ _ hp =>
    rw [eff_deeds] at e
    obtain ⟨e1, e2⟩ := List.append_inj' e rfl
    obtain rfl := (List.cons.inj e2).1
    exact ⟨s, h1, e1, rfl, hp⟩
theorem unf_split : ∀ n < 4, Txt.split (unfL.getD n "") "\n" = ((unfD n).1 ++ [(unfD n).2]).map Deed.line := by decide +kernel
theorem unf_join : ∀ n < 4, unfL.getD n "" = Txt.join "\n" (((unfD n).1 ++ [(unfD n).2]).map Deed.line) := by decide +kernel
theorem unf_count : ∀ n < 4, Txt.count (unfL.getD n "") "\n" = (((unfD n).1.length : Nat) : Int) := by decide +kernel
theorem unf_deed : ∀ n < 4, ∀ d ∈ (unfD n).1 ++ [(unfD n).2], isDeed d.items = true := by decide +kernel
theorem unf_bad {n : Nat} (hn : n < 4) {ps : List Pic} {st : SS} (h : Hist ps st) (e : st.deeds = (unfD n).1) : refuse ps st (unfD n).2 ≠ none := by
  have c : n = 0 ∨ n = 1 ∨ n = 2 ∨ n = 3 := by omega
  rcases c with rfl | rfl | rfl | rfl
  · obtain ⟨s1, h1, e1, rfl, p1⟩ := h.snoc (ds := [.gather 1 2 1]) (d := .gather 1 1 1) e
    obtain ⟨s0, h0, e0, rfl, p0⟩ := h1.snoc (ds := []) (d := .gather 1 2 1) e1
    obtain rfl := h0.nil (by rw [e0]; rfl)
    simp [unfD, refuse, Mur.eff, noneYet, findR]
  · obtain ⟨s1, h1, e1, rfl, p1⟩ := h.snoc (ds := [.gather 1 1 1]) (d := .gather 2 1 1) e
    obtain ⟨s0, h0, e0, rfl, p0⟩ := h1.snoc (ds := []) (d := .gather 1 1 1) e1
    obtain rfl := h0.nil (by rw [e0]; rfl)
    have ne : ((ix ps (.p 1) : Nat) : Int) ≠ (ix ps (.p 2) : Nat) := fun z => by
      have := ix_inj p0 p1 (by omega)
      cases this
    simp [unfD, refuse, Mur.eff, noneYet, findR, ne]
  · obtain ⟨s3, h3, e3, rfl, _⟩ := h.snoc (ds := [.gather 1 1 1, .gather 2 1 1, .gather 3 1 1]) (d := .gather 4 1 2) e
    obtain ⟨s2, h2, e2, rfl, _⟩ := h3.snoc (ds := [.gather 1 1 1, .gather 2 1 1]) (d := .gather 3 1 1) e3
    obtain ⟨s1, h1, e1, rfl, p1⟩ := h2.snoc (ds := [.gather 1 1 1]) (d := .gather 2 1 1) e2
    obtain ⟨s0, h0, e0, rfl, p0⟩ := h1.snoc (ds := []) (d := .gather 1 1 1) e1
    obtain rfl := h0.nil (by rw [e0]; rfl)
    simp [unfD, refuse, Mur.eff, noneYet, findR]
  · obtain ⟨s3, h3, e3, rfl, _⟩ := h.snoc (ds := [.gather 1 12 1, .gather 2 12 1, .gather 3 12 1]) (d := .gather 4 12 1) e
    obtain ⟨s2, h2, e2, rfl, _⟩ := h3.snoc (ds := [.gather 1 12 1, .gather 2 12 1]) (d := .gather 3 12 1) e3
    obtain ⟨s1, h1, e1, rfl, p1⟩ := h2.snoc (ds := [.gather 1 12 1]) (d := .gather 2 12 1) e2
    obtain ⟨s0, h0, e0, rfl, p0⟩ := h1.snoc (ds := []) (d := .gather 1 12 1) e1
    obtain rfl := h0.nil (by rw [e0]; rfl)
    simp [unfD, refuse, Mur.eff, noneYet, findR]
theorem joinL_join {S : List Nat} {zs : List (List Nat)} : ∀ {xs : List (List Nat)}, xs ≠ [] → TL.joinL S (TL.joinL S xs :: zs) = TL.joinL S (xs ++ zs)
  | [], h => absurd rfl h
  | [p], _ => rfl
  | p :: q :: r, _ => by
    have e := joinL_two (S := S) (a := p) (b := TL.joinL S (q :: r)) (zs := zs) []
    rw [List.nil_append, List.nil_append] at e
    rw [joinL_cons (p := p) (r := q :: r) (by simp), e, joinL_cons (p := p) (r := TL.joinL S (q :: r) :: zs) (by simp), joinL_join (xs := q :: r) (by simp)]
    exact (joinL_cons (S := S) (p := p) (r := q :: r ++ zs) (by simp)).symm
theorem join_join {xs zs : List Str} (h : xs ≠ []) : Txt.join "\n" (Txt.join "\n" xs :: zs) = Txt.join "\n" (xs ++ zs) := by
  have e : [Txt.join "\n" (Txt.join "\n" xs :: zs)].map TL.tl = [Txt.join "\n" (xs ++ zs)].map TL.tl := by
    simp only [List.map_cons, List.map_nil]
    rw [TL.join_eq, TL.join_eq, TL.join_eq, TL.tl_join, TL.tl_join, List.map_cons, TL.tl_join, List.map_append, joinL_join (by simpa using h)]
  exact (List.cons.inj (TL.map_tl_inj e)).1
theorem unf_good : ∀ {n : Nat}, n < 4 → ∀ d ∈ (unfD n).1, ∀ ps st, refuse ps st d = none := by
  intro n hn d hd ps st
  have c : n = 0 ∨ n = 1 ∨ n = 2 ∨ n = 3 := by omega
  rcases c with rfl | rfl | rfl | rfl <;> simp only [unfD, List.mem_cons, List.not_mem_nil, or_false] at hd <;> rcases hd with rfl | rfl | rfl | rfl <;> simp [refuse]
theorem unfit_at {ds : List Deed} (hd : ∀ d ∈ ds, isDeed d.items = true) (hl : ds.length ≤ 100) {n : Nat} (hn : n < 4) {text : Str} (et : text = Txt.join "\n" (unfL.getD n "" :: ds.map Deed.line)) :
    BadAt text (((unfD n).1.length : Nat) + 1) ∧ (linesOf text).length < 900 ∧ ∀ z ∈ linesOf text, z.length ≤ 50000 := by
  have hu := unf_deed n hn
  have el : linesOf text = ((unfD n).1 ++ [(unfD n).2]).map Deed.line ++ ds.map Deed.line := by
    rw [et, unf_join n hn, join_join (by simp)]
    refine lines_join (by simp) (fun w => ?_) fun y hy => ?_
    · have w2 := congrArg List.length w
      have : ∀ n < 4, 2 ≤ (unfD n).1.length := by decide
      have := this n hn
      simp at w2; omega
    · rcases List.mem_append.mp hy with hy | hy
      · obtain ⟨d, h, rfl⟩ := List.mem_map.mp hy
        exact line_nl (hu d h)
      · obtain ⟨d, h, rfl⟩ := List.mem_map.mp hy
        exact line_nl (hd d h)
  have hlen : ∀ n < 4, (unfD n).1.length ≤ 4 := by decide
  have h4 := hlen n hn
  refine ⟨⟨(unfD n).1.length, (unfD n).2.line, ?_, by omega, fun ps st nd hs hld => ?_, fun j y hj hy ps st nd hs hld => ?_⟩, ?_, fun z hz => ?_⟩
  · rw [el, List.map_append, List.append_assoc, List.getElem?_append_right (by rw [List.length_map]; omega), List.length_map, Nat.sub_self]; rfl
  · refine bad_of _ (read_back (hu _ (by simp))) (unf_bad hn hs ?_)
    rw [el, List.map_append, List.append_assoc, List.take_append_of_le_length (by rw [List.length_map]; omega), List.take_of_length_le (by rw [List.length_map]; omega)] at hld
    exact hld.one (lines_deeds fun d h => hu d (List.mem_append_left _ h))
  · rw [el, List.map_append, List.append_assoc, List.getElem?_append_left (by rw [List.length_map]; exact hj), List.getElem?_map] at hy
    cases ed : (unfD n).1[j]? with
    | none => rw [ed] at hy; cases hy
    | some d =>
    rw [ed] at hy
    obtain rfl := Option.some.inj hy
    have hm := List.mem_of_getElem? ed
    rintro (b | ⟨d2, b, b2⟩)
    · rw [read_back (hu d (List.mem_append_left _ hm))] at b; cases b
    · rw [read_back (hu d (List.mem_append_left _ hm))] at b
      injection b with b
      injection b with b3 b4
      rw [← items_of b3 b4] at b2
      exact b2 (unf_good hn d hm ps st)
  · rw [el]
    simp only [List.length_append, List.length_map, List.length_cons, List.length_nil]
    omega
  · rw [el] at hz
    rcases List.mem_append.mp hz with hz | hz
    · obtain ⟨d, h, rfl⟩ := List.mem_map.mp hz
      exact Nat.le_trans (line_len (hu d h)) (by decide)
    · obtain ⟨d, h, rfl⟩ := List.mem_map.mp hz
      exact Nat.le_trans (line_len (hd d h)) (by decide)
def pageT (ds : List Deed) : Str := Txt.join "\n" (ds.map Deed.line)
theorem line_ne {dd : Deed} (h : isDeed dd.items = true) : dd.line ≠ "" := fun z => by
  have e := read_back h
  rw [z] at e
  have : readOf "" = none := by decide +kernel
  rw [this] at e; cases e
theorem lines_page {ds : List Deed} (h : ∀ dd ∈ ds, isDeed dd.items = true) : linesOf (Txt.join "\n" (ds.map Deed.line)) = ds.map Deed.line := by
  cases ds with
  | nil => decide +kernel
  | cons d ds =>
    refine lines_join (by simp) (fun w => ?_) fun y hy => ?_
    · exact line_ne (h d (by simp)) (List.cons.inj w).1
    · obtain ⟨dd, hd, rfl⟩ := List.mem_map.mp hy
      exact line_nl (h dd hd)
theorem SimR.inside {ps qs : List Pic} {rs ss : List Rod} (h : SimR ps qs rs ss) : insideTo qs ss = insideTo ps rs := by
  unfold insideTo
  generalize List.replicate 10 (0 : Int) = acc
  induction h generalizing acc with
  | nil => rfl
  | cons o _ ih => rw [List.foldl_cons, List.foldl_cons, SimO.held o, ih]
theorem Sim.glass {ps qs : List Pic} {st su : SS} (h : Sim ps qs st su) : glassD qs su = glassD ps st := by
  rw [glassD_of, glassD_of, h.a0, h.a1, h.a2, h.r.inside]
theorem SimR.get {ps qs : List Pic} {rs ss : List Rod} (h : SimR ps qs rs ss) : ∀ {i : Nat} {r : Rod}, rs[i]? = some r → ∃ s, ss[i]? = some s ∧ SimO ps qs r s := by
  induction h with
  | nil => intro i r e; simp at e
  | @cons r s rs ss o _ ih =>
    intro i x e
    cases i with
    | zero => obtain rfl : r = x := by simpa using e
              exact ⟨s, rfl, o⟩
    | succ i => exact ih (by simpa using e)
theorem bits_lt (i : Int) : i.natAbs < 2 ^ Builtin.Int.intBits i := by
  unfold Builtin.Int.intBits
  split
  · rename_i h; simp_all
  · exact Nat.lt_log2_self
theorem mulc1 {c : Int} {n : Nat} (k : Nat) (h0 : 0 ≤ c) (h : c.natAbs < 2 ^ n) (hn : n ≤ 2000000) : CMulX (c / (1 + ((k : Nat) : Int))) 577 := by
  obtain ⟨m, rfl⟩ := Int.eq_ofNat_of_zero_le h0
  have e : ((m : Nat) : Int) / (1 + ((k : Nat) : Int)) = ((m / (1 + k) : Nat) : Int) := by
    rw [show (1 : Int) + ((k : Nat) : Int) = ((1 + k : Nat) : Int) by omega, ← Int.natCast_ediv]
  rw [e]
  refine mulx_ok (a := n) (b := 10) ?_ (by decide) (by omega)
  rw [Int.natAbs_natCast] at h ⊢
  exact Nat.lt_of_le_of_lt (Nat.div_le_self _ _) h
theorem mulc2 {c : Int} {n : Nat} (k : Nat) (hk : k < 8) (h0 : 0 ≤ c) (h : c.natAbs < 2 ^ n) (hn : n ≤ 2000000) : CMulX (c + ((k : Nat) : Int)) 1361 := by
  obtain ⟨m, rfl⟩ := Int.eq_ofNat_of_zero_le h0
  refine mulx_ok (a := n + 4) (b := 12) ?_ (by decide) (by omega)
  rw [Int.natAbs_natCast] at h
  have e : (2 : Nat) ^ (n + 4) = 2 ^ n * 16 := by rw [Nat.pow_add]
  have : ((((m : Nat) : Int) + ((k : Nat) : Int))).natAbs = m + k := by omega
  omega
theorem Gone.news {x y : Ws} {H0 H H' : Hp} (g : Gone H x H' y) (h : ∀ b, x.foot b → H0 b = none) (s : Same H0 H) : ∀ b, y.foot b → H0 b = none := fun b hb => by
  rcases hb with hb | hb
  · rw [g.A] at hb; exact h b (.inl hb)
  · rcases g.m b hb with w | w
    · exact h b (.inr w)
    · exact s.free w
theorem Gone.same0 {x y : Ws} {H0 H H' : Hp} (g : Gone H x H' y) (h : ∀ b, x.foot b → H0 b = none) (s : Same H0 H) : Same H0 H' := fun b o e => g.keep b o (s b o e) fun w => by rw [h b w] at e; cases e
/-- a shop that was there when another one was made in its store -/
theorem Fresh.other {K : PySem.W.Frag} {H H' : Hp} {z w : Ws} (hz : z.at K H) (fr : Fresh H z.p z.A z.D z.ps H' w) (hw : w.at K H') :
    ∃ z' : Ws, z'.at K H' ∧ Two z' w ∧ z'.s = z.s ∧ z'.B = z.B ∧ z'.now = z.now ∧ z'.past = z.past ∧ z'.ahead = z.ahead ∧ z'.k = max z.k w.k := by
  obtain ⟨qs, eq⟩ := fr.ext
  have wk := hw.kl
  have zk := hz.kl
  have wbl := hw.bl
  have zpl := hz.pl
  have hS : ShopAt (He.ga K "Shop") H' z.s w.p z.B z.now z.past z.ahead := by
    rw [fr.ep]
    exact hz.S.stay (fr.keep.tup hz.F) fun b hb o e => fr.keep _ _ e (hz.F.ofFoot (hz.ap b hb))
  refine ⟨⟨w.p, w.A, w.D, w.ps, w.bs, z.s, z.B, z.now, z.past, z.ahead, max z.k w.k⟩, ⟨hw.F, hw.base, hS, fun b hb x => ?_, fun st hst => ?_, by dsimp only; omega, by dsimp only; omega, by dsimp only; omega⟩, ⟨rfl, rfl, rfl, rfl, rfl, fun b hb hm => ?_⟩, rfl, rfl, rfl, rfl, rfl, rfl⟩
  · rcases fr.D b x with y | y
    · exact hz.ap b hb y
    · obtain ⟨o, e, _⟩ := hz.S.there b hb
      rw [y] at e; cases e
  · have ok := (hz.ok st hst).mono (qs := qs) (j := max z.k w.k) (by omega)
    rw [← eq] at ok
    exact ok
  · obtain ⟨o, e, _⟩ := hz.S.there b hm
    rw [fr.m b hb] at e; cases e
theorem base_self (ps : List Pic) : Base ps ps := fun P hP => ⟨P, hP, 0, ⟨by decide, by decide⟩, (turn_zero P).symm⟩
end Mur
namespace Mur
open PySem hiding start
open PySem.Spec L2
open PyProof.Rows hiding St
local macro_rules | `(tactic| walk_at "y1") => `(tactic| first
  | ((with_reducible refine' z_start ?zt ?_); (case zt => repeat constructor))
  | with_reducible refine z_seq ?_ | with_reducible refine z_asg ?_ | with_reducible refine z_op ?_ | ((with_reducible refine' z_var ?zv ?_); (case zv => exact rfl)) | with_reducible refine z_c ?_
  | with_reducible refine z_cons ?_ | with_reducible refine z_nil ?_ | with_reducible refine z_addI ?_ | with_reducible refine z_I0 ?_ | with_reducible refine z_eqI ?_ | with_reducible refine z_neI ?_ | with_reducible refine z_isN ?_ | with_reducible refine z_isB ?_
  | with_reducible refine z_eqS ?_ | with_reducible refine z_neS ?_ | with_reducible refine z_tTest ?_ | with_reducible refine z_tB ?_ | with_reducible refine z_bl ?_ | with_reducible refine z_blQ ?_
  | ((with_reducible refine' z_name ?zs ?_); (case zs => repeat constructor)) | with_reducible refine z_next ?_ | with_reducible refine z_ret ?_ | with_reducible refine z_retN ?_ | with_reducible refine z_drop ?_
  | with_reducible refine z_call ?_ | with_reducible refine z_callS ?_ | with_reducible refine z_cb ?_ | with_reducible refine z_and ?_ | with_reducible refine z_or ?_ | with_reducible refine z_not ?_ | with_reducible refine z_un ?_ | with_reducible refine z_U ?_ | with_reducible refine z_tup ?_ | with_reducible refine z_lst ?_
  | with_reducible refine z_par ?_ | ((with_reducible refine' z_par2 ?za ?zb ?_); (case za => repeat constructor); (case zb => repeat constructor))
  | with_reducible refine z_andV ?_ | with_reducible refine z_orV ?_ | with_reducible refine z_notV ?_ | with_reducible refine z_ifE ?_ | with_reducible refine z_chain ?_
  | with_reducible refine z_bm ?_ | with_reducible refine z_bm0 ?_ | with_reducible refine z_fld ?_ | with_reducible refine z_sfld ?_ | with_reducible refine z_dnewT ?_ | with_reducible refine z_augS ?_ | with_reducible refine z_gSub ?_ | with_reducible refine z_ipI ?_ | with_reducible refine z_lc ?_ | with_reducible refine z_tyes ?_ | with_reducible refine z_dnotin ?_ | with_reducible refine z_din ?_ | with_reducible refine z_dget ?_ | with_reducible refine z_dput ?_ | with_reducible refine z_dnewK ?_ | with_reducible refine z_meth ?_ | with_reducible refine z_lset ?_ | with_reducible refine z_sl ?_ | with_reducible refine z_noP ?_ | with_reducible refine z_part ?_ | with_reducible refine z_dget2 ?_ | with_reducible refine z_dget1 ?_ | with_reducible refine z_dpop ?_ | with_reducible refine z_kget ?_ | with_reducible refine z_revL ?_ | with_reducible refine z_keys ?_ | with_reducible refine z_enum ?_ | with_reducible refine z_methSl ?_ | with_reducible refine z_someI ?_ | with_reducible refine z_abs ?_ | with_reducible refine z_int1 ?_ | with_reducible refine z_intB ?_
  | with_reducible refine iteT ?_ | with_reducible refine iteF ?_ | with_reducible refine z_ntrue ?_ | with_reducible refine z_nfalse ?_ | with_reducible refine z_for ?_ | with_reducible refine z_zipA ?_ | with_reducible refine z_iList ?_ | with_reducible refine z_iTup ?_ | with_reducible refine z_rng1 ?_ | with_reducible refine z_rng2 ?_ | with_reducible refine z_gCons ?_ | with_reducible refine z_gNil ?_)
local macro_rules | `(tactic| walk_at "z1") => `(tactic| first | walk_at "y1" | with_reducible refine z_if ?_)
local macro_rules | `(tactic| walk_at "y") => `(tactic| repeat walk_at "y1")
local macro_rules | `(tactic| walk_at "z") => `(tactic| repeat walk_at "z1")
local macro_rules | `(tactic| walk_at "hs") => `(tactic| repeat (first | assumption | exact upd_same | refine same_to (by assumption) ?_))
local macro_rules | `(tactic| walk_at "zn") => `(tactic| (intro p hp; generalize hH : upd _ p _ = H2; have hs2 := new_same hp hH; have he2 := new_at hH; clear hH))
local macro_rules | `(tactic| walk_at "zt") => `(tactic| (refine ⟨sz1000 (by simp), ?_⟩; walk_at "zn"))
local macro_rules | `(tactic| walk_at "zw") => `(tactic| simp only [L2.wipe, List.map_cons, List.map_nil, List.set_cons_zero, List.set_cons_succ])
abbrev shapesT : List (Str × Int) := shapesL
def top (i : Nat) : Stmt := PySem.Challenge.pw_murrine_k37_whole_pages_are_read.main.body.getD i (.Pass ⟨0, 0, 0, 0⟩)
abbrev sFaces___init__ : Stmt := inClass (top 44) 0
abbrev sShop___init__ : Stmt := inClass (top 35) 0
abbrev sShop_rod : Stmt := inClass (top 35) 5
abbrev sFaces_need : Stmt := inClass (top 44) 2
abbrev sFaces_need_depth : Stmt := inClass (top 44) 8
abbrev sarea : Stmt := top 30
abbrev sFaces_counts : Stmt := inClass (top 44) 10
abbrev sShop_held_in : Stmt := inClass (top 35) 8
abbrev sShop_kept : Stmt := inClass (top 35) 1
abbrev sShop_began : Stmt := inClass (top 35) 4
abbrev sShop_gone : Stmt := inClass (top 35) 15
abbrev sShop_waste : Stmt := inClass (top 35) 17
abbrev sis_deed : Stmt := top 25
abbrev sShop_new_rod : Stmt := inClass (top 35) 7
abbrev sFaces_stored : Stmt := inClass (top 44) 1
abbrev sFaces_plain : Stmt := inClass (top 44) 3
abbrev sShop_gather : Stmt := inClass (top 35) 9
abbrev sFaces_depth : Stmt := inClass (top 44) 5
abbrev sShop_pull : Stmt := inClass (top 35) 10
abbrev sFaces_four : Stmt := inClass (top 44) 4
abbrev sShop_bundle : Stmt := inClass (top 35) 11
abbrev sarranged : Stmt := top 31
abbrev sFaces_whirled : Stmt := inClass (top 44) 12
abbrev sFaces_turned : Stmt := inClass (top 44) 11
abbrev sShop_turn : Stmt := inClass (top 35) 12
abbrev sShop_cut : Stmt := inClass (top 35) 13
abbrev sShop_fuse : Stmt := inClass (top 35) 14
abbrev sShop_sell : Stmt := inClass (top 35) 16
abbrev sShop_do : Stmt := inClass (top 35) 25
abbrev s_law_done : Stmt := top 48
abbrev s_law_row : Stmt := top 49
abbrev s_law_menu : Stmt := top 50
abbrev s_law_four_of : Stmt := top 51
abbrev s_law_deed : Stmt := top 52
abbrev sShop_glass : Stmt := inClass (top 35) 21
abbrev sShop_bundled : Stmt := inClass (top 35) 22
abbrev sShop_look : Stmt := inClass (top 35) 24
abbrev s_law_next : Stmt := top 53
abbrev s_law_play : Stmt := top 54
abbrev swritten : Stmt := top 26
abbrev sShop_deeds : Stmt := inClass (top 35) 23
abbrev spage : Stmt := top 38
abbrev sBadPage___init__ : Stmt := inClass (top 20) 0
abbrev snumber_in : Stmt := top 27
abbrev sread : Stmt := top 28
abbrev sread_page : Stmt := top 39
abbrev s_law_whole : Stmt := top 46
abbrev s_law_like : Stmt := top 47
abbrev s_law_refused : Stmt := top 58
abbrev s_law_bad : Stmt := top 57
abbrev s_law_spoilt : Stmt := top 59
abbrev sShop_become : Stmt := inClass (top 35) 2
abbrev sShop_undo : Stmt := inClass (top 35) 18
abbrev sShop_rods : Stmt := inClass (top 35) 6
abbrev sShop_store : Stmt := inClass (top 35) 3
abbrev sFaces_cell : Stmt := inClass (top 44) 9
abbrev s_law_in_new_store : Stmt := top 61
abbrev s_law_cell : Stmt := top 55
abbrev s_law_unfit : Stmt := top 60
abbrev sShop_redo : Stmt := inClass (top 35) 19
abbrev s_law_none_again : Stmt := top 56
abbrev scopied : Stmt := top 36
abbrev sShop_twin : Stmt := inClass (top 35) 20
abbrev slaw : Stmt := top 62
structure Tx (w : World) (K : PySem.W.Frag) (mg : Str → Option Value) : Prop where
  garea : mg "area" = some (.ref (He.ga K "area"))
  gis_deed : mg "is_deed" = some (.ref (He.ga K "is_deed"))
  garranged : mg "arranged" = some (.ref (He.ga K "arranged"))
  g_law_done : mg "_law_done" = some (.ref (He.ga K "_law_done"))
  g_law_row : mg "_law_row" = some (.ref (He.ga K "_law_row"))
  g_law_menu : mg "_law_menu" = some (.ref (He.ga K "_law_menu"))
  g_law_four_of : mg "_law_four_of" = some (.ref (He.ga K "_law_four_of"))
  g_law_deed : mg "_law_deed" = some (.ref (He.ga K "_law_deed"))
  g_law_next : mg "_law_next" = some (.ref (He.ga K "_law_next"))
  g_law_play : mg "_law_play" = some (.ref (He.ga K "_law_play"))
  gwritten : mg "written" = some (.ref (He.ga K "written"))
  gpage : mg "page" = some (.ref (He.ga K "page"))
  gnumber_in : mg "number_in" = some (.ref (He.ga K "number_in"))
  gread : mg "read" = some (.ref (He.ga K "read"))
  gread_page : mg "read_page" = some (.ref (He.ga K "read_page"))
  g_law_whole : mg "_law_whole" = some (.ref (He.ga K "_law_whole"))
  g_law_like : mg "_law_like" = some (.ref (He.ga K "_law_like"))
  g_law_refused : mg "_law_refused" = some (.ref (He.ga K "_law_refused"))
  g_law_bad : mg "_law_bad" = some (.ref (He.ga K "_law_bad"))
  g_law_spoilt : mg "_law_spoilt" = some (.ref (He.ga K "_law_spoilt"))
  g_law_in_new_store : mg "_law_in_new_store" = some (.ref (He.ga K "_law_in_new_store"))
  g_law_cell : mg "_law_cell" = some (.ref (He.ga K "_law_cell"))
  g_law_unfit : mg "_law_unfit" = some (.ref (He.ga K "_law_unfit"))
  g_law_none_again : mg "_law_none_again" = some (.ref (He.ga K "_law_none_again"))
  gcopied : mg "copied" = some (.ref (He.ga K "copied"))
  glaw : mg "law" = some (.ref (He.ga K "law"))
  gGlassError : mg "GlassError" = some (.ref (He.ga K "GlassError"))
  eGlassError : PySem.W.excIn K (He.ga K "GlassError") He.veBase "ValueError.__new__" = true ∧ PySem.W.keepIn K (.ref (He.ga K "GlassError")) = true ∧ PySem.W.subIn K (.ref (He.ga K "GlassError")) (.type "BaseException") = some true ∧ PySem.W.typeIn K (.ref (He.ga K "GlassError")) = some (.type "type")
  gBadColour : mg "BadColour" = some (.ref (He.ga K "BadColour"))
  eBadColour : PySem.W.excIn K (He.ga K "BadColour") He.veBase "ValueError.__new__" = true ∧ PySem.W.keepIn K (.ref (He.ga K "BadColour")) = true ∧ PySem.W.subIn K (.ref (He.ga K "BadColour")) (.type "BaseException") = some true ∧ PySem.W.typeIn K (.ref (He.ga K "BadColour")) = some (.type "type")
  gNoFace : mg "NoFace" = some (.ref (He.ga K "NoFace"))
  eNoFace : PySem.W.excIn K (He.ga K "NoFace") He.veBase "ValueError.__new__" = true ∧ PySem.W.keepIn K (.ref (He.ga K "NoFace")) = true ∧ PySem.W.subIn K (.ref (He.ga K "NoFace")) (.type "BaseException") = some true ∧ PySem.W.typeIn K (.ref (He.ga K "NoFace")) = some (.type "type")
  gTooDeep : mg "TooDeep" = some (.ref (He.ga K "TooDeep"))
  eTooDeep : PySem.W.excIn K (He.ga K "TooDeep") He.veBase "ValueError.__new__" = true ∧ PySem.W.keepIn K (.ref (He.ga K "TooDeep")) = true ∧ PySem.W.subIn K (.ref (He.ga K "TooDeep")) (.type "BaseException") = some true ∧ PySem.W.typeIn K (.ref (He.ga K "TooDeep")) = some (.type "type")
  gBadDepth : mg "BadDepth" = some (.ref (He.ga K "BadDepth"))
  eBadDepth : PySem.W.excIn K (He.ga K "BadDepth") He.veBase "ValueError.__new__" = true ∧ PySem.W.keepIn K (.ref (He.ga K "BadDepth")) = true ∧ PySem.W.subIn K (.ref (He.ga K "BadDepth")) (.type "BaseException") = some true ∧ PySem.W.typeIn K (.ref (He.ga K "BadDepth")) = some (.type "type")
  gNoCell : mg "NoCell" = some (.ref (He.ga K "NoCell"))
  eNoCell : PySem.W.excIn K (He.ga K "NoCell") He.veBase "ValueError.__new__" = true ∧ PySem.W.keepIn K (.ref (He.ga K "NoCell")) = true ∧ PySem.W.subIn K (.ref (He.ga K "NoCell")) (.type "BaseException") = some true ∧ PySem.W.typeIn K (.ref (He.ga K "NoCell")) = some (.type "type")
  gBadTurn : mg "BadTurn" = some (.ref (He.ga K "BadTurn"))
  eBadTurn : PySem.W.excIn K (He.ga K "BadTurn") He.veBase "ValueError.__new__" = true ∧ PySem.W.keepIn K (.ref (He.ga K "BadTurn")) = true ∧ PySem.W.subIn K (.ref (He.ga K "BadTurn")) (.type "BaseException") = some true ∧ PySem.W.typeIn K (.ref (He.ga K "BadTurn")) = some (.type "type")
  gNoRod : mg "NoRod" = some (.ref (He.ga K "NoRod"))
  eNoRod : PySem.W.excIn K (He.ga K "NoRod") He.veBase "ValueError.__new__" = true ∧ PySem.W.keepIn K (.ref (He.ga K "NoRod")) = true ∧ PySem.W.subIn K (.ref (He.ga K "NoRod")) (.type "BaseException") = some true ∧ PySem.W.typeIn K (.ref (He.ga K "NoRod")) = some (.type "type")
  gBadThickness : mg "BadThickness" = some (.ref (He.ga K "BadThickness"))
  eBadThickness : PySem.W.excIn K (He.ga K "BadThickness") He.veBase "ValueError.__new__" = true ∧ PySem.W.keepIn K (.ref (He.ga K "BadThickness")) = true ∧ PySem.W.subIn K (.ref (He.ga K "BadThickness")) (.type "BaseException") = some true ∧ PySem.W.typeIn K (.ref (He.ga K "BadThickness")) = some (.type "type")
  gBadLength : mg "BadLength" = some (.ref (He.ga K "BadLength"))
  eBadLength : PySem.W.excIn K (He.ga K "BadLength") He.veBase "ValueError.__new__" = true ∧ PySem.W.keepIn K (.ref (He.ga K "BadLength")) = true ∧ PySem.W.subIn K (.ref (He.ga K "BadLength")) (.type "BaseException") = some true ∧ PySem.W.typeIn K (.ref (He.ga K "BadLength")) = some (.type "type")
  gBadSteps : mg "BadSteps" = some (.ref (He.ga K "BadSteps"))
  eBadSteps : PySem.W.excIn K (He.ga K "BadSteps") He.veBase "ValueError.__new__" = true ∧ PySem.W.keepIn K (.ref (He.ga K "BadSteps")) = true ∧ PySem.W.subIn K (.ref (He.ga K "BadSteps")) (.type "BaseException") = some true ∧ PySem.W.typeIn K (.ref (He.ga K "BadSteps")) = some (.type "type")
  gTooThin : mg "TooThin" = some (.ref (He.ga K "TooThin"))
  eTooThin : PySem.W.excIn K (He.ga K "TooThin") He.veBase "ValueError.__new__" = true ∧ PySem.W.keepIn K (.ref (He.ga K "TooThin")) = true ∧ PySem.W.subIn K (.ref (He.ga K "TooThin")) (.type "BaseException") = some true ∧ PySem.W.typeIn K (.ref (He.ga K "TooThin")) = some (.type "type")
  gTooThick : mg "TooThick" = some (.ref (He.ga K "TooThick"))
  eTooThick : PySem.W.excIn K (He.ga K "TooThick") He.veBase "ValueError.__new__" = true ∧ PySem.W.keepIn K (.ref (He.ga K "TooThick")) = true ∧ PySem.W.subIn K (.ref (He.ga K "TooThick")) (.type "BaseException") = some true ∧ PySem.W.typeIn K (.ref (He.ga K "TooThick")) = some (.type "type")
  gTwice : mg "Twice" = some (.ref (He.ga K "Twice"))
  eTwice : PySem.W.excIn K (He.ga K "Twice") He.veBase "ValueError.__new__" = true ∧ PySem.W.keepIn K (.ref (He.ga K "Twice")) = true ∧ PySem.W.subIn K (.ref (He.ga K "Twice")) (.type "BaseException") = some true ∧ PySem.W.typeIn K (.ref (He.ga K "Twice")) = some (.type "type")
  gUnlike : mg "Unlike" = some (.ref (He.ga K "Unlike"))
  eUnlike : PySem.W.excIn K (He.ga K "Unlike") He.veBase "ValueError.__new__" = true ∧ PySem.W.keepIn K (.ref (He.ga K "Unlike")) = true ∧ PySem.W.subIn K (.ref (He.ga K "Unlike")) (.type "BaseException") = some true ∧ PySem.W.typeIn K (.ref (He.ga K "Unlike")) = some (.type "type")
  gNothingLeft : mg "NothingLeft" = some (.ref (He.ga K "NothingLeft"))
  eNothingLeft : PySem.W.excIn K (He.ga K "NothingLeft") He.veBase "ValueError.__new__" = true ∧ PySem.W.keepIn K (.ref (He.ga K "NothingLeft")) = true ∧ PySem.W.subIn K (.ref (He.ga K "NothingLeft")) (.type "BaseException") = some true ∧ PySem.W.typeIn K (.ref (He.ga K "NothingLeft")) = some (.type "type")
  gBadDeed : mg "BadDeed" = some (.ref (He.ga K "BadDeed"))
  eBadDeed : PySem.W.excIn K (He.ga K "BadDeed") He.veBase "ValueError.__new__" = true ∧ PySem.W.keepIn K (.ref (He.ga K "BadDeed")) = true ∧ PySem.W.subIn K (.ref (He.ga K "BadDeed")) (.type "BaseException") = some true ∧ PySem.W.typeIn K (.ref (He.ga K "BadDeed")) = some (.type "type")
  gBadLine : mg "BadLine" = some (.ref (He.ga K "BadLine"))
  eBadLine : PySem.W.excIn K (He.ga K "BadLine") He.veBase "ValueError.__new__" = true ∧ PySem.W.keepIn K (.ref (He.ga K "BadLine")) = true ∧ PySem.W.subIn K (.ref (He.ga K "BadLine")) (.type "BaseException") = some true ∧ PySem.W.typeIn K (.ref (He.ga K "BadLine")) = some (.type "type")
  gBadPage : mg "BadPage" = some (.ref (He.ga K "BadPage"))
  gShop : mg "Shop" = some (.ref (He.ga K "Shop"))
  cShop : Cls K (He.ga K "Shop")
  kShop : Mk K (He.ga K "Shop") (He.ma K (He.ga K "Shop") "__init__")
  mShop_rod : Meth K (He.ga K "Shop") "rod" (He.ma K (He.ga K "Shop") "rod")
  mShop_held_in : Meth K (He.ga K "Shop") "held_in" (He.ma K (He.ga K "Shop") "held_in")
  mShop_kept : Meth K (He.ga K "Shop") "kept" (He.ma K (He.ga K "Shop") "kept")
  mShop_began : Meth K (He.ga K "Shop") "began" (He.ma K (He.ga K "Shop") "began")
  mShop_gone : Meth K (He.ga K "Shop") "gone" (He.ma K (He.ga K "Shop") "gone")
  mShop_waste : Meth K (He.ga K "Shop") "waste" (He.ma K (He.ga K "Shop") "waste")
  mShop_new_rod : Meth K (He.ga K "Shop") "new_rod" (He.ma K (He.ga K "Shop") "new_rod")
  mShop_gather : Meth K (He.ga K "Shop") "gather" (He.ma K (He.ga K "Shop") "gather")
  mShop_pull : Meth K (He.ga K "Shop") "pull" (He.ma K (He.ga K "Shop") "pull")
  mShop_bundle : Meth K (He.ga K "Shop") "bundle" (He.ma K (He.ga K "Shop") "bundle")
  mShop_turn : Meth K (He.ga K "Shop") "turn" (He.ma K (He.ga K "Shop") "turn")
  mShop_cut : Meth K (He.ga K "Shop") "cut" (He.ma K (He.ga K "Shop") "cut")
  mShop_fuse : Meth K (He.ga K "Shop") "fuse" (He.ma K (He.ga K "Shop") "fuse")
  mShop_sell : Meth K (He.ga K "Shop") "sell" (He.ma K (He.ga K "Shop") "sell")
  mShop_do : Meth K (He.ga K "Shop") "do" (He.ma K (He.ga K "Shop") "do")
  mShop_glass : Meth K (He.ga K "Shop") "glass" (He.ma K (He.ga K "Shop") "glass")
  mShop_bundled : Meth K (He.ga K "Shop") "bundled" (He.ma K (He.ga K "Shop") "bundled")
  mShop_look : Meth K (He.ga K "Shop") "look" (He.ma K (He.ga K "Shop") "look")
  mShop_deeds : Meth K (He.ga K "Shop") "deeds" (He.ma K (He.ga K "Shop") "deeds")
  mShop_become : Meth K (He.ga K "Shop") "become" (He.ma K (He.ga K "Shop") "become")
  mShop_undo : Meth K (He.ga K "Shop") "undo" (He.ma K (He.ga K "Shop") "undo")
  mShop_rods : Meth K (He.ga K "Shop") "rods" (He.ma K (He.ga K "Shop") "rods")
  mShop_store : Meth K (He.ga K "Shop") "store" (He.ma K (He.ga K "Shop") "store")
  mShop_redo : Meth K (He.ga K "Shop") "redo" (He.ma K (He.ga K "Shop") "redo")
  mShop_twin : Meth K (He.ga K "Shop") "twin" (He.ma K (He.ga K "Shop") "twin")
  aShop_faces : NoAttr K (He.ga K "Shop") "faces"
  aShop_standing : NoAttr K (He.ga K "Shop") "standing"
  aShop_coming : NoAttr K (He.ga K "Shop") "coming"
  aShop_amounts : NoAttr K (He.ga K "Shop") "amounts"
  aShop_bundles : NoAttr K (He.ga K "Shop") "bundles"
  aShop_deeds_done : NoAttr K (He.ga K "Shop") "deeds_done"
  aShop_behind : NoAttr K (He.ga K "Shop") "behind"
  aShop_ahead : NoAttr K (He.ga K "Shop") "ahead"
  gFaces : mg "Faces" = some (.ref (He.ga K "Faces"))
  cFaces : Cls K (He.ga K "Faces")
  kFaces : Mk K (He.ga K "Faces") (He.ma K (He.ga K "Faces") "__init__")
  mFaces_need : Meth K (He.ga K "Faces") "need" (He.ma K (He.ga K "Faces") "need")
  mFaces_need_depth : Meth K (He.ga K "Faces") "need_depth" (He.ma K (He.ga K "Faces") "need_depth")
  mFaces_counts : Meth K (He.ga K "Faces") "counts" (He.ma K (He.ga K "Faces") "counts")
  mFaces_stored : Meth K (He.ga K "Faces") "stored" (He.ma K (He.ga K "Faces") "stored")
  mFaces_plain : Meth K (He.ga K "Faces") "plain" (He.ma K (He.ga K "Faces") "plain")
  mFaces_depth : Meth K (He.ga K "Faces") "depth" (He.ma K (He.ga K "Faces") "depth")
  mFaces_four : Meth K (He.ga K "Faces") "four" (He.ma K (He.ga K "Faces") "four")
  mFaces_whirled : Meth K (He.ga K "Faces") "whirled" (He.ma K (He.ga K "Faces") "whirled")
  mFaces_turned : Meth K (He.ga K "Faces") "turned" (He.ma K (He.ga K "Faces") "turned")
  mFaces_cell : Meth K (He.ga K "Faces") "cell" (He.ma K (He.ga K "Faces") "cell")
  aFaces_nodes : NoAttr K (He.ga K "Faces") "nodes"
  aFaces_depths : NoAttr K (He.ga K "Faces") "depths"
  aFaces_sums : NoAttr K (He.ga K "Faces") "sums"
  aFaces_known : NoAttr K (He.ga K "Faces") "known"
  aFaces_whirls : NoAttr K (He.ga K "Faces") "whirls"
  xBadColour_GlassError : PySem.W.exmOne K (.ref (He.ga K "BadColour")) (.ref (He.ga K "GlassError")) = some true
  xBadThickness_GlassError : PySem.W.exmOne K (.ref (He.ga K "BadThickness")) (.ref (He.ga K "GlassError")) = some true
  xBadLength_GlassError : PySem.W.exmOne K (.ref (He.ga K "BadLength")) (.ref (He.ga K "GlassError")) = some true
  xNoRod_GlassError : PySem.W.exmOne K (.ref (He.ga K "NoRod")) (.ref (He.ga K "GlassError")) = some true
  xBadSteps_GlassError : PySem.W.exmOne K (.ref (He.ga K "BadSteps")) (.ref (He.ga K "GlassError")) = some true
  xTooThin_GlassError : PySem.W.exmOne K (.ref (He.ga K "TooThin")) (.ref (He.ga K "GlassError")) = some true
  xTwice_GlassError : PySem.W.exmOne K (.ref (He.ga K "Twice")) (.ref (He.ga K "GlassError")) = some true
  xUnlike_GlassError : PySem.W.exmOne K (.ref (He.ga K "Unlike")) (.ref (He.ga K "GlassError")) = some true
  xTooThick_GlassError : PySem.W.exmOne K (.ref (He.ga K "TooThick")) (.ref (He.ga K "GlassError")) = some true
  xBadTurn_GlassError : PySem.W.exmOne K (.ref (He.ga K "BadTurn")) (.ref (He.ga K "GlassError")) = some true
  xBadDeed_GlassError : PySem.W.exmOne K (.ref (He.ga K "BadDeed")) (.ref (He.ga K "GlassError")) = some true
  xBadLine_GlassError : PySem.W.exmOne K (.ref (He.ga K "BadLine")) (.ref (He.ga K "GlassError")) = some true
  xBadPage_BadPage : PySem.W.exmOne K (.ref (He.ga K "BadPage")) (.ref (He.ga K "BadPage")) = some true
  xNothingLeft_GlassError : PySem.W.exmOne K (.ref (He.ga K "NothingLeft")) (.ref (He.ga K "GlassError")) = some true
  xNothingLeft_NothingLeft : PySem.W.exmOne K (.ref (He.ga K "NothingLeft")) (.ref (He.ga K "NothingLeft")) = some true
  gSHAPES : mg "SHAPES" = some (.ref (He.ga K "SHAPES"))
  uValueError : mg "ValueError" = none
  uabs : mg "abs" = none
  ubool : mg "bool" = none
  udict : mg "dict" = none
  uenumerate : mg "enumerate" = none
  uint : mg "int" = none
  uisinstance : mg "isinstance" = none
  ulen : mg "len" = none
  ulist : mg "list" = none
  umax : mg "max" = none
  umin : mg "min" = none
  urange : mg "range" = none
  usorted : mg "sorted" = none
  ustr : mg "str" = none
  utuple : mg "tuple" = none
  uzip : mg "zip" = none
  iMOST : ∃ t, mg "MOST" = some (.int 999999999999999999 t)
  iTHICKEST : ∃ t, mg "THICKEST" = some (.int 12 t)
  iLONGEST : ∃ t, mg "LONGEST" = some (.int 999999999999999 t)
  iCOLOURS : ∃ t, mg "COLOURS" = some (.int 10 t)
  iDEEPEST : ∃ t, mg "DEEPEST" = some (.int 12 t)
  iFINEST : ∃ t, mg "FINEST" = some (.int 20 t)
  zFIGURES : ∃ t, mg "FIGURES" = some (.str "0123456789" t)
  tSHAPES : Tabl K w (He.ga K "SHAPES") shapesT
  oBadPage : Oex K "BadPage" "at"
  fFaces___init__ : ∃ fd, FunD K "__init__" "Faces.__init__" (defArgs sFaces___init__) (defBody sFaces___init__) (defScope sFaces___init__) [] [] (He.ma K (He.ga K "Faces") "__init__") fd
  fShop___init__ : ∃ fd, FunD K "__init__" "Shop.__init__" (defArgs sShop___init__) (defBody sShop___init__) (defScope sShop___init__) [] [] (He.ma K (He.ga K "Shop") "__init__") fd
  fShop_rod : ∃ fd, FunD K "rod" "Shop.rod" (defArgs sShop_rod) (defBody sShop_rod) (defScope sShop_rod) [] [] (He.ma K (He.ga K "Shop") "rod") fd
  fFaces_need : ∃ fd, FunD K "need" "Faces.need" (defArgs sFaces_need) (defBody sFaces_need) (defScope sFaces_need) [] [] (He.ma K (He.ga K "Faces") "need") fd
  fFaces_need_depth : ∃ fd, FunD K "need_depth" "Faces.need_depth" (defArgs sFaces_need_depth) (defBody sFaces_need_depth) (defScope sFaces_need_depth) [] [] (He.ma K (He.ga K "Faces") "need_depth") fd
  farea : ∃ fd, FunD K "area" "area" (defArgs sarea) (defBody sarea) (defScope sarea) [] [] (He.ga K "area") fd
  fFaces_counts : ∃ fd, FunD K "counts" "Faces.counts" (defArgs sFaces_counts) (defBody sFaces_counts) (defScope sFaces_counts) [] [] (He.ma K (He.ga K "Faces") "counts") fd
  fShop_held_in : ∃ fd, FunD K "held_in" "Shop.held_in" (defArgs sShop_held_in) (defBody sShop_held_in) (defScope sShop_held_in) [] [] (He.ma K (He.ga K "Shop") "held_in") fd
  fShop_kept : ∃ fd, FunD K "kept" "Shop.kept" (defArgs sShop_kept) (defBody sShop_kept) (defScope sShop_kept) [] [] (He.ma K (He.ga K "Shop") "kept") fd
  fShop_began : ∃ fd, FunD K "began" "Shop.began" (defArgs sShop_began) (defBody sShop_began) (defScope sShop_began) [] [] (He.ma K (He.ga K "Shop") "began") fd
  fShop_gone : ∃ fd, FunD K "gone" "Shop.gone" (defArgs sShop_gone) (defBody sShop_gone) (defScope sShop_gone) [] [] (He.ma K (He.ga K "Shop") "gone") fd
  fShop_waste : ∃ fd, FunD K "waste" "Shop.waste" (defArgs sShop_waste) (defBody sShop_waste) (defScope sShop_waste) [] [] (He.ma K (He.ga K "Shop") "waste") fd
  fis_deed : ∃ fd, FunD K "is_deed" "is_deed" (defArgs sis_deed) (defBody sis_deed) (defScope sis_deed) [] [] (He.ga K "is_deed") fd
  fShop_new_rod : ∃ fd, FunD K "new_rod" "Shop.new_rod" (defArgs sShop_new_rod) (defBody sShop_new_rod) (defScope sShop_new_rod) [] [] (He.ma K (He.ga K "Shop") "new_rod") fd
  fFaces_stored : ∃ fd, FunD K "stored" "Faces.stored" (defArgs sFaces_stored) (defBody sFaces_stored) (defScope sFaces_stored) [] [] (He.ma K (He.ga K "Faces") "stored") fd
  fFaces_plain : ∃ fd, FunD K "plain" "Faces.plain" (defArgs sFaces_plain) (defBody sFaces_plain) (defScope sFaces_plain) [] [] (He.ma K (He.ga K "Faces") "plain") fd
  fShop_gather : ∃ fd, FunD K "gather" "Shop.gather" (defArgs sShop_gather) (defBody sShop_gather) (defScope sShop_gather) [] [] (He.ma K (He.ga K "Shop") "gather") fd
  fFaces_depth : ∃ fd, FunD K "depth" "Faces.depth" (defArgs sFaces_depth) (defBody sFaces_depth) (defScope sFaces_depth) [] [] (He.ma K (He.ga K "Faces") "depth") fd
  fShop_pull : ∃ fd, FunD K "pull" "Shop.pull" (defArgs sShop_pull) (defBody sShop_pull) (defScope sShop_pull) [] [] (He.ma K (He.ga K "Shop") "pull") fd
  fFaces_four : ∃ fd, FunD K "four" "Faces.four" (defArgs sFaces_four) (defBody sFaces_four) (defScope sFaces_four) [] [] (He.ma K (He.ga K "Faces") "four") fd
  fShop_bundle : ∃ fd, FunD K "bundle" "Shop.bundle" (defArgs sShop_bundle) (defBody sShop_bundle) (defScope sShop_bundle) [] [] (He.ma K (He.ga K "Shop") "bundle") fd
  farranged : ∃ fd, FunD K "arranged" "arranged" (defArgs sarranged) (defBody sarranged) (defScope sarranged) [] [] (He.ga K "arranged") fd
  fFaces_whirled : ∃ fd, FunD K "whirled" "Faces.whirled" (defArgs sFaces_whirled) (defBody sFaces_whirled) (defScope sFaces_whirled) [] [] (He.ma K (He.ga K "Faces") "whirled") fd
  fFaces_turned : ∃ fd, FunD K "turned" "Faces.turned" (defArgs sFaces_turned) (defBody sFaces_turned) (defScope sFaces_turned) [] [] (He.ma K (He.ga K "Faces") "turned") fd
  fShop_turn : ∃ fd, FunD K "turn" "Shop.turn" (defArgs sShop_turn) (defBody sShop_turn) (defScope sShop_turn) [] [] (He.ma K (He.ga K "Shop") "turn") fd
  fShop_cut : ∃ fd, FunD K "cut" "Shop.cut" (defArgs sShop_cut) (defBody sShop_cut) (defScope sShop_cut) [] [] (He.ma K (He.ga K "Shop") "cut") fd
  fShop_fuse : ∃ fd, FunD K "fuse" "Shop.fuse" (defArgs sShop_fuse) (defBody sShop_fuse) (defScope sShop_fuse) [] [] (He.ma K (He.ga K "Shop") "fuse") fd
  fShop_sell : ∃ fd, FunD K "sell" "Shop.sell" (defArgs sShop_sell) (defBody sShop_sell) (defScope sShop_sell) [] [] (He.ma K (He.ga K "Shop") "sell") fd
  fShop_do : ∃ fd, FunD K "do" "Shop.do" (defArgs sShop_do) (defBody sShop_do) (defScope sShop_do) [] [] (He.ma K (He.ga K "Shop") "do") fd
  f_law_done : ∃ fd, FunD K "_law_done" "_law_done" (defArgs s_law_done) (defBody s_law_done) (defScope s_law_done) [] [] (He.ga K "_law_done") fd
  f_law_row : ∃ fd, FunD K "_law_row" "_law_row" (defArgs s_law_row) (defBody s_law_row) (defScope s_law_row) [] [] (He.ga K "_law_row") fd
  f_law_menu : ∃ fd, FunD K "_law_menu" "_law_menu" (defArgs s_law_menu) (defBody s_law_menu) (defScope s_law_menu) [] [] (He.ga K "_law_menu") fd
  f_law_four_of : ∃ fd, FunD K "_law_four_of" "_law_four_of" (defArgs s_law_four_of) (defBody s_law_four_of) (defScope s_law_four_of) [] [] (He.ga K "_law_four_of") fd
  f_law_deed : ∃ fd, FunD K "_law_deed" "_law_deed" (defArgs s_law_deed) (defBody s_law_deed) (defScope s_law_deed) [] [] (He.ga K "_law_deed") fd
  fShop_glass : ∃ fd, FunD K "glass" "Shop.glass" (defArgs sShop_glass) (defBody sShop_glass) (defScope sShop_glass) [] [] (He.ma K (He.ga K "Shop") "glass") fd
  fShop_bundled : ∃ fd, FunD K "bundled" "Shop.bundled" (defArgs sShop_bundled) (defBody sShop_bundled) (defScope sShop_bundled) [] [] (He.ma K (He.ga K "Shop") "bundled") fd
  fShop_look : ∃ fd, FunD K "look" "Shop.look" (defArgs sShop_look) (defBody sShop_look) (defScope sShop_look) [] [] (He.ma K (He.ga K "Shop") "look") fd
  f_law_next : ∃ fd, FunD K "_law_next" "_law_next" (defArgs s_law_next) (defBody s_law_next) (defScope s_law_next) [] [] (He.ga K "_law_next") fd
  f_law_play : ∃ fd, FunD K "_law_play" "_law_play" (defArgs s_law_play) (defBody s_law_play) (defScope s_law_play) [] [] (He.ga K "_law_play") fd
  fwritten : ∃ fd, FunD K "written" "written" (defArgs swritten) (defBody swritten) (defScope swritten) [] [] (He.ga K "written") fd
  fShop_deeds : ∃ fd, FunD K "deeds" "Shop.deeds" (defArgs sShop_deeds) (defBody sShop_deeds) (defScope sShop_deeds) [] [] (He.ma K (He.ga K "Shop") "deeds") fd
  fpage : ∃ fd, FunD K "page" "page" (defArgs spage) (defBody spage) (defScope spage) [] [] (He.ga K "page") fd
  fBadPage___init__ : ∃ fd, FunD K "__init__" "BadPage.__init__" (defArgs sBadPage___init__) (defBody sBadPage___init__) (defScope sBadPage___init__) [] [] (He.ma K (He.ga K "BadPage") "__init__") fd
  fnumber_in : ∃ fd, FunD K "number_in" "number_in" (defArgs snumber_in) (defBody snumber_in) (defScope snumber_in) [] [] (He.ga K "number_in") fd
  fread : ∃ fd, FunD K "read" "read" (defArgs sread) (defBody sread) (defScope sread) [] [] (He.ga K "read") fd
  fread_page : ∃ fd, FunD K "read_page" "read_page" (defArgs sread_page) (defBody sread_page) (defScope sread_page) [] [] (He.ga K "read_page") fd
  f_law_whole : ∃ fd, FunD K "_law_whole" "_law_whole" (defArgs s_law_whole) (defBody s_law_whole) (defScope s_law_whole) [] [] (He.ga K "_law_whole") fd
  f_law_like : ∃ fd, FunD K "_law_like" "_law_like" (defArgs s_law_like) (defBody s_law_like) (defScope s_law_like) [] [] (He.ga K "_law_like") fd
  f_law_refused : ∃ fd, FunD K "_law_refused" "_law_refused" (defArgs s_law_refused) (defBody s_law_refused) (defScope s_law_refused) [] [] (He.ga K "_law_refused") fd
  f_law_bad : ∃ fd, FunD K "_law_bad" "_law_bad" (defArgs s_law_bad) (defBody s_law_bad) (defScope s_law_bad) [] [] (He.ga K "_law_bad") fd
  f_law_spoilt : ∃ fd, FunD K "_law_spoilt" "_law_spoilt" (defArgs s_law_spoilt) (defBody s_law_spoilt) (defScope s_law_spoilt) [] [] (He.ga K "_law_spoilt") fd
  fShop_become : ∃ fd, FunD K "become" "Shop.become" (defArgs sShop_become) (defBody sShop_become) (defScope sShop_become) [] [] (He.ma K (He.ga K "Shop") "become") fd
  fShop_undo : ∃ fd, FunD K "undo" "Shop.undo" (defArgs sShop_undo) (defBody sShop_undo) (defScope sShop_undo) [] [] (He.ma K (He.ga K "Shop") "undo") fd
  fShop_rods : ∃ fd, FunD K "rods" "Shop.rods" (defArgs sShop_rods) (defBody sShop_rods) (defScope sShop_rods) [] [] (He.ma K (He.ga K "Shop") "rods") fd
  fShop_store : ∃ fd, FunD K "store" "Shop.store" (defArgs sShop_store) (defBody sShop_store) (defScope sShop_store) [] [] (He.ma K (He.ga K "Shop") "store") fd
  fFaces_cell : ∃ fd, FunD K "cell" "Faces.cell" (defArgs sFaces_cell) (defBody sFaces_cell) (defScope sFaces_cell) [] [] (He.ma K (He.ga K "Faces") "cell") fd
  f_law_in_new_store : ∃ fd, FunD K "_law_in_new_store" "_law_in_new_store" (defArgs s_law_in_new_store) (defBody s_law_in_new_store) (defScope s_law_in_new_store) [] [] (He.ga K "_law_in_new_store") fd
  f_law_cell : ∃ fd, FunD K "_law_cell" "_law_cell" (defArgs s_law_cell) (defBody s_law_cell) (defScope s_law_cell) [] [] (He.ga K "_law_cell") fd
  f_law_unfit : ∃ fd, FunD K "_law_unfit" "_law_unfit" (defArgs s_law_unfit) (defBody s_law_unfit) (defScope s_law_unfit) [] [] (He.ga K "_law_unfit") fd
  fShop_redo : ∃ fd, FunD K "redo" "Shop.redo" (defArgs sShop_redo) (defBody sShop_redo) (defScope sShop_redo) [] [] (He.ma K (He.ga K "Shop") "redo") fd
  f_law_none_again : ∃ fd, FunD K "_law_none_again" "_law_none_again" (defArgs s_law_none_again) (defBody s_law_none_again) (defScope s_law_none_again) [] [] (He.ga K "_law_none_again") fd
  fcopied : ∃ fd, FunD K "copied" "copied" (defArgs scopied) (defBody scopied) (defScope scopied) [] [] (He.ga K "copied") fd
  fShop_twin : ∃ fd, FunD K "twin" "Shop.twin" (defArgs sShop_twin) (defBody sShop_twin) (defScope sShop_twin) [] [] (He.ma K (He.ga K "Shop") "twin") fd
  flaw : ∃ fd, FunD K "law" "law" (defArgs slaw) (defBody slaw) (defScope slaw) [] [] (He.ga K "law") fd
def spLaw (K : PySem.W.Frag) : Sp := fun vs H Q _ => ∃ (a : Addr) (ns : List Int), vs = [.ref a] ∧ SqL K H a (ns.map V.int) ∧ ns.length ≤ 63 ∧ (∀ z ∈ ns, Builtin.Int.intBits z ≤ 1048576) ∧ ∀ H', Q (.bl true) H'

def dFaces___init__ : He.DefD := ⟨("Faces", some "__init__"), "__init__", "Faces.__init__", defArgs sFaces___init__, defBody sFaces___init__, defScope sFaces___init__, [], []⟩
def dShop___init__ : He.DefD := ⟨("Shop", some "__init__"), "__init__", "Shop.__init__", defArgs sShop___init__, defBody sShop___init__, defScope sShop___init__, [], []⟩
def dShop_rod : He.DefD := ⟨("Shop", some "rod"), "rod", "Shop.rod", defArgs sShop_rod, defBody sShop_rod, defScope sShop_rod, [], []⟩
def dFaces_need : He.DefD := ⟨("Faces", some "need"), "need", "Faces.need", defArgs sFaces_need, defBody sFaces_need, defScope sFaces_need, [], []⟩
def dFaces_need_depth : He.DefD := ⟨("Faces", some "need_depth"), "need_depth", "Faces.need_depth", defArgs sFaces_need_depth, defBody sFaces_need_depth, defScope sFaces_need_depth, [], []⟩
def darea : He.DefD := ⟨("area", none), "area", "area", defArgs sarea, defBody sarea, defScope sarea, [], []⟩
def dFaces_counts : He.DefD := ⟨("Faces", some "counts"), "counts", "Faces.counts", defArgs sFaces_counts, defBody sFaces_counts, defScope sFaces_counts, [], []⟩
def dShop_held_in : He.DefD := ⟨("Shop", some "held_in"), "held_in", "Shop.held_in", defArgs sShop_held_in, defBody sShop_held_in, defScope sShop_held_in, [], []⟩
def dShop_kept : He.DefD := ⟨("Shop", some "kept"), "kept", "Shop.kept", defArgs sShop_kept, defBody sShop_kept, defScope sShop_kept, [], []⟩
def dShop_began : He.DefD := ⟨("Shop", some "began"), "began", "Shop.began", defArgs sShop_began, defBody sShop_began, defScope sShop_began, [], []⟩
def dShop_gone : He.DefD := ⟨("Shop", some "gone"), "gone", "Shop.gone", defArgs sShop_gone, defBody sShop_gone, defScope sShop_gone, [], []⟩
def dShop_waste : He.DefD := ⟨("Shop", some "waste"), "waste", "Shop.waste", defArgs sShop_waste, defBody sShop_waste, defScope sShop_waste, [], []⟩
def dis_deed : He.DefD := ⟨("is_deed", none), "is_deed", "is_deed", defArgs sis_deed, defBody sis_deed, defScope sis_deed, [], []⟩
def dShop_new_rod : He.DefD := ⟨("Shop", some "new_rod"), "new_rod", "Shop.new_rod", defArgs sShop_new_rod, defBody sShop_new_rod, defScope sShop_new_rod, [], []⟩
def dFaces_stored : He.DefD := ⟨("Faces", some "stored"), "stored", "Faces.stored", defArgs sFaces_stored, defBody sFaces_stored, defScope sFaces_stored, [], []⟩
def dFaces_plain : He.DefD := ⟨("Faces", some "plain"), "plain", "Faces.plain", defArgs sFaces_plain, defBody sFaces_plain, defScope sFaces_plain, [], []⟩
def dShop_gather : He.DefD := ⟨("Shop", some "gather"), "gather", "Shop.gather", defArgs sShop_gather, defBody sShop_gather, defScope sShop_gather, [], []⟩
def dFaces_depth : He.DefD := ⟨("Faces", some "depth"), "depth", "Faces.depth", defArgs sFaces_depth, defBody sFaces_depth, defScope sFaces_depth, [], []⟩
def dShop_pull : He.DefD := ⟨("Shop", some "pull"), "pull", "Shop.pull", defArgs sShop_pull, defBody sShop_pull, defScope sShop_pull, [], []⟩
def dFaces_four : He.DefD := ⟨("Faces", some "four"), "four", "Faces.four", defArgs sFaces_four, defBody sFaces_four, defScope sFaces_four, [], []⟩
def dShop_bundle : He.DefD := ⟨("Shop", some "bundle"), "bundle", "Shop.bundle", defArgs sShop_bundle, defBody sShop_bundle, defScope sShop_bundle, [], []⟩
def darranged : He.DefD := ⟨("arranged", none), "arranged", "arranged", defArgs sarranged, defBody sarranged, defScope sarranged, [], []⟩
def dFaces_whirled : He.DefD := ⟨("Faces", some "whirled"), "whirled", "Faces.whirled", defArgs sFaces_whirled, defBody sFaces_whirled, defScope sFaces_whirled, [], []⟩
def dFaces_turned : He.DefD := ⟨("Faces", some "turned"), "turned", "Faces.turned", defArgs sFaces_turned, defBody sFaces_turned, defScope sFaces_turned, [], []⟩
def dShop_turn : He.DefD := ⟨("Shop", some "turn"), "turn", "Shop.turn", defArgs sShop_turn, defBody sShop_turn, defScope sShop_turn, [], []⟩
def dShop_cut : He.DefD := ⟨("Shop", some "cut"), "cut", "Shop.cut", defArgs sShop_cut, defBody sShop_cut, defScope sShop_cut, [], []⟩
def dShop_fuse : He.DefD := ⟨("Shop", some "fuse"), "fuse", "Shop.fuse", defArgs sShop_fuse, defBody sShop_fuse, defScope sShop_fuse, [], []⟩
def dShop_sell : He.DefD := ⟨("Shop", some "sell"), "sell", "Shop.sell", defArgs sShop_sell, defBody sShop_sell, defScope sShop_sell, [], []⟩
def dShop_do : He.DefD := ⟨("Shop", some "do"), "do", "Shop.do", defArgs sShop_do, defBody sShop_do, defScope sShop_do, [], []⟩
def d_law_done : He.DefD := ⟨("_law_done", none), "_law_done", "_law_done", defArgs s_law_done, defBody s_law_done, defScope s_law_done, [], []⟩
def d_law_row : He.DefD := ⟨("_law_row", none), "_law_row", "_law_row", defArgs s_law_row, defBody s_law_row, defScope s_law_row, [], []⟩
def d_law_menu : He.DefD := ⟨("_law_menu", none), "_law_menu", "_law_menu", defArgs s_law_menu, defBody s_law_menu, defScope s_law_menu, [], []⟩
def d_law_four_of : He.DefD := ⟨("_law_four_of", none), "_law_four_of", "_law_four_of", defArgs s_law_four_of, defBody s_law_four_of, defScope s_law_four_of, [], []⟩
def d_law_deed : He.DefD := ⟨("_law_deed", none), "_law_deed", "_law_deed", defArgs s_law_deed, defBody s_law_deed, defScope s_law_deed, [], []⟩
def dShop_glass : He.DefD := ⟨("Shop", some "glass"), "glass", "Shop.glass", defArgs sShop_glass, defBody sShop_glass, defScope sShop_glass, [], []⟩
def dShop_bundled : He.DefD := ⟨("Shop", some "bundled"), "bundled", "Shop.bundled", defArgs sShop_bundled, defBody sShop_bundled, defScope sShop_bundled, [], []⟩
def dShop_look : He.DefD := ⟨("Shop", some "look"), "look", "Shop.look", defArgs sShop_look, defBody sShop_look, defScope sShop_look, [], []⟩
def d_law_next : He.DefD := ⟨("_law_next", none), "_law_next", "_law_next", defArgs s_law_next, defBody s_law_next, defScope s_law_next, [], []⟩
def d_law_play : He.DefD := ⟨("_law_play", none), "_law_play", "_law_play", defArgs s_law_play, defBody s_law_play, defScope s_law_play, [], []⟩
def dwritten : He.DefD := ⟨("written", none), "written", "written", defArgs swritten, defBody swritten, defScope swritten, [], []⟩
def dShop_deeds : He.DefD := ⟨("Shop", some "deeds"), "deeds", "Shop.deeds", defArgs sShop_deeds, defBody sShop_deeds, defScope sShop_deeds, [], []⟩
def dpage : He.DefD := ⟨("page", none), "page", "page", defArgs spage, defBody spage, defScope spage, [], []⟩
def dBadPage___init__ : He.DefD := ⟨("BadPage", some "__init__"), "__init__", "BadPage.__init__", defArgs sBadPage___init__, defBody sBadPage___init__, defScope sBadPage___init__, [], []⟩
def dnumber_in : He.DefD := ⟨("number_in", none), "number_in", "number_in", defArgs snumber_in, defBody snumber_in, defScope snumber_in, [], []⟩
def dread : He.DefD := ⟨("read", none), "read", "read", defArgs sread, defBody sread, defScope sread, [], []⟩
def dread_page : He.DefD := ⟨("read_page", none), "read_page", "read_page", defArgs sread_page, defBody sread_page, defScope sread_page, [], []⟩
def d_law_whole : He.DefD := ⟨("_law_whole", none), "_law_whole", "_law_whole", defArgs s_law_whole, defBody s_law_whole, defScope s_law_whole, [], []⟩
def d_law_like : He.DefD := ⟨("_law_like", none), "_law_like", "_law_like", defArgs s_law_like, defBody s_law_like, defScope s_law_like, [], []⟩
def d_law_refused : He.DefD := ⟨("_law_refused", none), "_law_refused", "_law_refused", defArgs s_law_refused, defBody s_law_refused, defScope s_law_refused, [], []⟩
def d_law_bad : He.DefD := ⟨("_law_bad", none), "_law_bad", "_law_bad", defArgs s_law_bad, defBody s_law_bad, defScope s_law_bad, [], []⟩
def d_law_spoilt : He.DefD := ⟨("_law_spoilt", none), "_law_spoilt", "_law_spoilt", defArgs s_law_spoilt, defBody s_law_spoilt, defScope s_law_spoilt, [], []⟩
def dShop_become : He.DefD := ⟨("Shop", some "become"), "become", "Shop.become", defArgs sShop_become, defBody sShop_become, defScope sShop_become, [], []⟩
def dShop_undo : He.DefD := ⟨("Shop", some "undo"), "undo", "Shop.undo", defArgs sShop_undo, defBody sShop_undo, defScope sShop_undo, [], []⟩
def dShop_rods : He.DefD := ⟨("Shop", some "rods"), "rods", "Shop.rods", defArgs sShop_rods, defBody sShop_rods, defScope sShop_rods, [], []⟩
def dShop_store : He.DefD := ⟨("Shop", some "store"), "store", "Shop.store", defArgs sShop_store, defBody sShop_store, defScope sShop_store, [], []⟩
def dFaces_cell : He.DefD := ⟨("Faces", some "cell"), "cell", "Faces.cell", defArgs sFaces_cell, defBody sFaces_cell, defScope sFaces_cell, [], []⟩
def d_law_in_new_store : He.DefD := ⟨("_law_in_new_store", none), "_law_in_new_store", "_law_in_new_store", defArgs s_law_in_new_store, defBody s_law_in_new_store, defScope s_law_in_new_store, [], []⟩
def d_law_cell : He.DefD := ⟨("_law_cell", none), "_law_cell", "_law_cell", defArgs s_law_cell, defBody s_law_cell, defScope s_law_cell, [], []⟩
def d_law_unfit : He.DefD := ⟨("_law_unfit", none), "_law_unfit", "_law_unfit", defArgs s_law_unfit, defBody s_law_unfit, defScope s_law_unfit, [], []⟩
def dShop_redo : He.DefD := ⟨("Shop", some "redo"), "redo", "Shop.redo", defArgs sShop_redo, defBody sShop_redo, defScope sShop_redo, [], []⟩
def d_law_none_again : He.DefD := ⟨("_law_none_again", none), "_law_none_again", "_law_none_again", defArgs s_law_none_again, defBody s_law_none_again, defScope s_law_none_again, [], []⟩
def dcopied : He.DefD := ⟨("copied", none), "copied", "copied", defArgs scopied, defBody scopied, defScope scopied, [], []⟩
def dShop_twin : He.DefD := ⟨("Shop", some "twin"), "twin", "Shop.twin", defArgs sShop_twin, defBody sShop_twin, defScope sShop_twin, [], []⟩
def dlaw : He.DefD := ⟨("law", none), "law", "law", defArgs slaw, defBody slaw, defScope slaw, [], []⟩
def hfn0 : List He.DefD := [dFaces___init__, dShop___init__, dShop_rod, dFaces_need, dFaces_need_depth, darea, dFaces_counts, dShop_held_in, dShop_kept, dShop_began, dShop_gone, dShop_waste, dis_deed, dShop_new_rod, dFaces_stored, dFaces_plain, dShop_gather, dFaces_depth, dShop_pull, dFaces_four, dShop_bundle, darranged, dFaces_whirled, dFaces_turned, dShop_turn]
def hfn1 : List He.DefD := [dShop_cut, dShop_fuse, dShop_sell, dShop_do, d_law_done, d_law_row, d_law_menu, d_law_four_of, d_law_deed, dShop_glass, dShop_bundled, dShop_look, d_law_next, d_law_play, dwritten, dShop_deeds, dpage, dBadPage___init__, dnumber_in, dread, dread_page, d_law_whole, d_law_like, d_law_refused, d_law_bad]
def hfn2 : List He.DefD := [d_law_spoilt, dShop_become, dShop_undo, dShop_rods, dShop_store, dFaces_cell, d_law_in_new_store, d_law_cell, d_law_unfit, dShop_redo, d_law_none_again, dcopied, dShop_twin, dlaw]
def hfn : List He.DefD := hfn0 ++ hfn1 ++ hfn2
def hfa0 : List He.Fa := [.glo "area", .glo "is_deed", .glo "arranged", .glo "_law_done", .glo "_law_row", .glo "_law_menu", .glo "_law_four_of", .glo "_law_deed", .glo "_law_next", .glo "_law_play", .glo "written", .glo "page", .glo "number_in", .glo "read", .glo "read_page", .glo "_law_whole", .glo "_law_like", .glo "_law_refused", .glo "_law_bad", .glo "_law_spoilt", .glo "_law_in_new_store", .glo "_law_cell", .glo "_law_unfit", .glo "_law_none_again", .glo "copied"]
def hfa1 : List He.Fa := [.glo "law", .glo "GlassError", .exc "GlassError", .glo "BadColour", .exc "BadColour", .glo "NoFace", .exc "NoFace", .glo "TooDeep", .exc "TooDeep", .glo "BadDepth", .exc "BadDepth", .glo "NoCell", .exc "NoCell", .glo "BadTurn", .exc "BadTurn", .glo "NoRod", .exc "NoRod", .glo "BadThickness", .exc "BadThickness", .glo "BadLength", .exc "BadLength", .glo "BadSteps", .exc "BadSteps", .glo "TooThin", .exc "TooThin"]
def hfa2 : List He.Fa := [.glo "TooThick", .exc "TooThick", .glo "Twice", .exc "Twice", .glo "Unlike", .exc "Unlike", .glo "NothingLeft", .exc "NothingLeft", .glo "BadDeed", .exc "BadDeed", .glo "BadLine", .exc "BadLine", .glo "BadPage", .glo "Shop", .cls "Shop", .mkr "Shop", .meth "Shop" "rod", .meth "Shop" "held_in", .meth "Shop" "kept", .meth "Shop" "began", .meth "Shop" "gone", .meth "Shop" "waste", .meth "Shop" "new_rod", .meth "Shop" "gather", .meth "Shop" "pull"]
def hfa3 : List He.Fa := [.meth "Shop" "bundle", .meth "Shop" "turn", .meth "Shop" "cut", .meth "Shop" "fuse", .meth "Shop" "sell", .meth "Shop" "do", .meth "Shop" "glass", .meth "Shop" "bundled", .meth "Shop" "look", .meth "Shop" "deeds", .meth "Shop" "become", .meth "Shop" "undo", .meth "Shop" "rods", .meth "Shop" "store", .meth "Shop" "redo", .meth "Shop" "twin", .noat "Shop" "faces", .noat "Shop" "standing", .noat "Shop" "coming", .noat "Shop" "amounts", .noat "Shop" "bundles", .noat "Shop" "deeds_done", .noat "Shop" "behind", .noat "Shop" "ahead", .glo "Faces"]
def hfa4 : List He.Fa := [.cls "Faces", .mkr "Faces", .meth "Faces" "need", .meth "Faces" "need_depth", .meth "Faces" "counts", .meth "Faces" "stored", .meth "Faces" "plain", .meth "Faces" "depth", .meth "Faces" "four", .meth "Faces" "whirled", .meth "Faces" "turned", .meth "Faces" "cell", .noat "Faces" "nodes", .noat "Faces" "depths", .noat "Faces" "sums", .noat "Faces" "known", .noat "Faces" "whirls", .exm "BadColour" "GlassError" true, .exm "BadThickness" "GlassError" true, .exm "BadLength" "GlassError" true, .exm "NoRod" "GlassError" true, .exm "BadSteps" "GlassError" true, .exm "TooThin" "GlassError" true, .exm "Twice" "GlassError" true, .exm "Unlike" "GlassError" true]
def hfa5 : List He.Fa := [.exm "TooThick" "GlassError" true, .exm "BadTurn" "GlassError" true, .exm "BadDeed" "GlassError" true, .exm "BadLine" "GlassError" true, .exm "BadPage" "BadPage" true, .exm "NothingLeft" "GlassError" true, .exm "NothingLeft" "NothingLeft" true, .glo "SHAPES", .free "ValueError", .free "abs", .free "bool", .free "dict", .free "enumerate", .free "int", .free "isinstance", .free "len", .free "list", .free "max", .free "min", .free "range", .free "sorted", .free "str", .free "tuple", .free "zip", .int "MOST" 999999999999999999]
def hfa6 : List He.Fa := [.int "THICKEST" 12, .int "LONGEST" 999999999999999, .int "COLOURS" 10, .int "DEEPEST" 12, .int "FINEST" 20, .str "FIGURES" "0123456789"]
def hfa : List He.Fa := hfa0 ++ hfa1 ++ hfa2 ++ hfa3 ++ hfa4 ++ hfa5 ++ hfa6
def hloose0 : List Str := ["_wall", "GlassError", "BadColour", "NoFace", "TooDeep", "BadDepth", "NoCell", "BadTurn", "NoRod", "BadThickness", "BadLength", "BadSteps", "TooThin", "TooThick", "Twice", "Unlike", "NothingLeft", "BadDeed", "BadLine", "BadPage", "SHAPES", "FIGURES", "MOST", "is_deed", "written"]
def hloose1 : List Str := ["number_in", "read", "area", "arranged", "THICKEST", "LONGEST", "Shop", "copied", "page", "read_page", "COLOURS", "DEEPEST", "FINEST", "Faces", "_law_whole", "_law_like", "_law_done", "_law_row", "_law_menu", "_law_four_of", "_law_deed", "_law_next", "_law_play", "_law_cell", "_law_none_again"]
def hloose2 : List Str := ["_law_bad", "_law_refused", "_law_spoilt", "_law_unfit", "_law_in_new_store"]
def hloose : List Str := hloose0 ++ hloose1 ++ hloose2
abbrev hR : PySem.W.OpenRow := PySem.W.OpenLaw.row PySem.Challenge.rw_murrine_k37_whole_pages_are_read
abbrev hTf : List He.Defn := []
abbrev hEx : PySem.W.Frag → Bool := oexB "BadPage" "at"
abbrev hk : PySem.W.Hook := hookXE 4 hfa hfn hTf hEx "SHAPES" shapesT
def hob (s : PySem.W.SharedT) : AlXV := obsXE 4 hfa hfn hTf hEx "SHAPES" (HandSHeadRun.getT s)
theorem hob_eq (s : PySem.W.SharedT) : hob s = hk.obs s.abs := obsXE_eq (HandSHeadRun.getT_eq s)
abbrev hRun (w : World) : Prop := HandSHeadRun.RunEq hR (PySem.W.view hR.prog [62]) hk hob 8000 hloose w
theorem hrunF (w : World) : hRun (w.withFollow "special-get-raises" false) := by
  intro os
  kernel_rfl
theorem hrunT (w : World) : hRun (w.withFollow "special-get-raises" true) := by
  intro os
  kernel_rfl
theorem hrun (w : World) : hRun w := PySem.W.byRow2 "special-get-raises" (P := hRun) hrunF hrunT w
theorem tx_of {w : World} {K : PySem.W.Frag} {h h0 : Heap} {mg : Str → Option Value} (X : K.In h) (G : h.Ns mainGlobals mg) (c : SaysXE hfa hfn hTf hEx "SHAPES" shapesT w h0 K) : Tx w K mg where
  garea := He.glo_ok X G (c.sx.t.d.fact 0 rfl)
  gis_deed := He.glo_ok X G (c.sx.t.d.fact 1 rfl)
  garranged := He.glo_ok X G (c.sx.t.d.fact 2 rfl)
  g_law_done := He.glo_ok X G (c.sx.t.d.fact 3 rfl)
  g_law_row := He.glo_ok X G (c.sx.t.d.fact 4 rfl)
  g_law_menu := He.glo_ok X G (c.sx.t.d.fact 5 rfl)
  g_law_four_of := He.glo_ok X G (c.sx.t.d.fact 6 rfl)
  g_law_deed := He.glo_ok X G (c.sx.t.d.fact 7 rfl)
  g_law_next := He.glo_ok X G (c.sx.t.d.fact 8 rfl)
  g_law_play := He.glo_ok X G (c.sx.t.d.fact 9 rfl)
  gwritten := He.glo_ok X G (c.sx.t.d.fact 10 rfl)
  gpage := He.glo_ok X G (c.sx.t.d.fact 11 rfl)
  gnumber_in := He.glo_ok X G (c.sx.t.d.fact 12 rfl)
  gread := He.glo_ok X G (c.sx.t.d.fact 13 rfl)
  gread_page := He.glo_ok X G (c.sx.t.d.fact 14 rfl)
  g_law_whole := He.glo_ok X G (c.sx.t.d.fact 15 rfl)
  g_law_like := He.glo_ok X G (c.sx.t.d.fact 16 rfl)
  g_law_refused := He.glo_ok X G (c.sx.t.d.fact 17 rfl)
  g_law_bad := He.glo_ok X G (c.sx.t.d.fact 18 rfl)
  g_law_spoilt := He.glo_ok X G (c.sx.t.d.fact 19 rfl)
  g_law_in_new_store := He.glo_ok X G (c.sx.t.d.fact 20 rfl)
  g_law_cell := He.glo_ok X G (c.sx.t.d.fact 21 rfl)
  g_law_unfit := He.glo_ok X G (c.sx.t.d.fact 22 rfl)
  g_law_none_again := He.glo_ok X G (c.sx.t.d.fact 23 rfl)
  gcopied := He.glo_ok X G (c.sx.t.d.fact 24 rfl)
  glaw := He.glo_ok X G (c.sx.t.d.fact 25 rfl)
  gGlassError := He.glo_ok X G (c.sx.t.d.fact 26 rfl)
  eGlassError := He.exc_ok (c.sx.t.d.fact 27 rfl)
  gBadColour := He.glo_ok X G (c.sx.t.d.fact 28 rfl)
  eBadColour := He.exc_ok (c.sx.t.d.fact 29 rfl)
  gNoFace := He.glo_ok X G (c.sx.t.d.fact 30 rfl)
  eNoFace := He.exc_ok (c.sx.t.d.fact 31 rfl)
  gTooDeep := He.glo_ok X G (c.sx.t.d.fact 32 rfl)
  eTooDeep := He.exc_ok (c.sx.t.d.fact 33 rfl)
  gBadDepth := He.glo_ok X G (c.sx.t.d.fact 34 rfl)
  eBadDepth := He.exc_ok (c.sx.t.d.fact 35 rfl)
  gNoCell := He.glo_ok X G (c.sx.t.d.fact 36 rfl)
  eNoCell := He.exc_ok (c.sx.t.d.fact 37 rfl)
  gBadTurn := He.glo_ok X G (c.sx.t.d.fact 38 rfl)
  eBadTurn := He.exc_ok (c.sx.t.d.fact 39 rfl)
  gNoRod := He.glo_ok X G (c.sx.t.d.fact 40 rfl)
  eNoRod := He.exc_ok (c.sx.t.d.fact 41 rfl)
  gBadThickness := He.glo_ok X G (c.sx.t.d.fact 42 rfl)
  eBadThickness := He.exc_ok (c.sx.t.d.fact 43 rfl)
  gBadLength := He.glo_ok X G (c.sx.t.d.fact 44 rfl)
  eBadLength := He.exc_ok (c.sx.t.d.fact 45 rfl)
  gBadSteps := He.glo_ok X G (c.sx.t.d.fact 46 rfl)
  eBadSteps := He.exc_ok (c.sx.t.d.fact 47 rfl)
  gTooThin := He.glo_ok X G (c.sx.t.d.fact 48 rfl)
  eTooThin := He.exc_ok (c.sx.t.d.fact 49 rfl)
  gTooThick := He.glo_ok X G (c.sx.t.d.fact 50 rfl)
  eTooThick := He.exc_ok (c.sx.t.d.fact 51 rfl)
  gTwice := He.glo_ok X G (c.sx.t.d.fact 52 rfl)
  eTwice := He.exc_ok (c.sx.t.d.fact 53 rfl)
  gUnlike := He.glo_ok X G (c.sx.t.d.fact 54 rfl)
  eUnlike := He.exc_ok (c.sx.t.d.fact 55 rfl)
  gNothingLeft := He.glo_ok X G (c.sx.t.d.fact 56 rfl)
  eNothingLeft := He.exc_ok (c.sx.t.d.fact 57 rfl)
  gBadDeed := He.glo_ok X G (c.sx.t.d.fact 58 rfl)
  eBadDeed := He.exc_ok (c.sx.t.d.fact 59 rfl)
  gBadLine := He.glo_ok X G (c.sx.t.d.fact 60 rfl)
  eBadLine := He.exc_ok (c.sx.t.d.fact 61 rfl)
  gBadPage := He.glo_ok X G (c.sx.t.d.fact 62 rfl)
  gShop := He.glo_ok X G (c.sx.t.d.fact 63 rfl)
  cShop := He.cls_ok (c.sx.t.d.fact 64 rfl)
  kShop := He.mkr_ok (c.sx.t.d.fact 65 rfl)
  mShop_rod := He.meth_ok (c.sx.t.d.fact 66 rfl)
  mShop_held_in := He.meth_ok (c.sx.t.d.fact 67 rfl)
  mShop_kept := He.meth_ok (c.sx.t.d.fact 68 rfl)
  mShop_began := He.meth_ok (c.sx.t.d.fact 69 rfl)
  mShop_gone := He.meth_ok (c.sx.t.d.fact 70 rfl)
  mShop_waste := He.meth_ok (c.sx.t.d.fact 71 rfl)
  mShop_new_rod := He.meth_ok (c.sx.t.d.fact 72 rfl)
  mShop_gather := He.meth_ok (c.sx.t.d.fact 73 rfl)
  mShop_pull := He.meth_ok (c.sx.t.d.fact 74 rfl)
  mShop_bundle := He.meth_ok (c.sx.t.d.fact 75 rfl)
  mShop_turn := He.meth_ok (c.sx.t.d.fact 76 rfl)
  mShop_cut := He.meth_ok (c.sx.t.d.fact 77 rfl)
  mShop_fuse := He.meth_ok (c.sx.t.d.fact 78 rfl)
  mShop_sell := He.meth_ok (c.sx.t.d.fact 79 rfl)
  mShop_do := He.meth_ok (c.sx.t.d.fact 80 rfl)
  mShop_glass := He.meth_ok (c.sx.t.d.fact 81 rfl)
  mShop_bundled := He.meth_ok (c.sx.t.d.fact 82 rfl)
  mShop_look := He.meth_ok (c.sx.t.d.fact 83 rfl)
  mShop_deeds := He.meth_ok (c.sx.t.d.fact 84 rfl)
  mShop_become := He.meth_ok (c.sx.t.d.fact 85 rfl)
  mShop_undo := He.meth_ok (c.sx.t.d.fact 86 rfl)
  mShop_rods := He.meth_ok (c.sx.t.d.fact 87 rfl)
  mShop_store := He.meth_ok (c.sx.t.d.fact 88 rfl)
  mShop_redo := He.meth_ok (c.sx.t.d.fact 89 rfl)
  mShop_twin := He.meth_ok (c.sx.t.d.fact 90 rfl)
  aShop_faces := He.noat_ok (c.sx.t.d.fact 91 rfl)
  aShop_standing := He.noat_ok (c.sx.t.d.fact 92 rfl)
  aShop_coming := He.noat_ok (c.sx.t.d.fact 93 rfl)
  aShop_amounts := He.noat_ok (c.sx.t.d.fact 94 rfl)
  aShop_bundles := He.noat_ok (c.sx.t.d.fact 95 rfl)
  aShop_deeds_done := He.noat_ok (c.sx.t.d.fact 96 rfl)
  aShop_behind := He.noat_ok (c.sx.t.d.fact 97 rfl)
  aShop_ahead := He.noat_ok (c.sx.t.d.fact 98 rfl)
  gFaces := He.glo_ok X G (c.sx.t.d.fact 99 rfl)
  cFaces := He.cls_ok (c.sx.t.d.fact 100 rfl)
  kFaces := He.mkr_ok (c.sx.t.d.fact 101 rfl)
  mFaces_need := He.meth_ok (c.sx.t.d.fact 102 rfl)
  mFaces_need_depth := He.meth_ok (c.sx.t.d.fact 103 rfl)
  mFaces_counts := He.meth_ok (c.sx.t.d.fact 104 rfl)
  mFaces_stored := He.meth_ok (c.sx.t.d.fact 105 rfl)
  mFaces_plain := He.meth_ok (c.sx.t.d.fact 106 rfl)
  mFaces_depth := He.meth_ok (c.sx.t.d.fact 107 rfl)
  mFaces_four := He.meth_ok (c.sx.t.d.fact 108 rfl)
  mFaces_whirled := He.meth_ok (c.sx.t.d.fact 109 rfl)
  mFaces_turned := He.meth_ok (c.sx.t.d.fact 110 rfl)
  mFaces_cell := He.meth_ok (c.sx.t.d.fact 111 rfl)
  aFaces_nodes := He.noat_ok (c.sx.t.d.fact 112 rfl)
  aFaces_depths := He.noat_ok (c.sx.t.d.fact 113 rfl)
  aFaces_sums := He.noat_ok (c.sx.t.d.fact 114 rfl)
  aFaces_known := He.noat_ok (c.sx.t.d.fact 115 rfl)
  aFaces_whirls := He.noat_ok (c.sx.t.d.fact 116 rfl)
  xBadColour_GlassError := He.exm_ok (c.sx.t.d.fact 117 rfl)
  xBadThickness_GlassError := He.exm_ok (c.sx.t.d.fact 118 rfl)
  xBadLength_GlassError := He.exm_ok (c.sx.t.d.fact 119 rfl)
  xNoRod_GlassError := He.exm_ok (c.sx.t.d.fact 120 rfl)
  xBadSteps_GlassError := He.exm_ok (c.sx.t.d.fact 121 rfl)
  xTooThin_GlassError := He.exm_ok (c.sx.t.d.fact 122 rfl)
  xTwice_GlassError := He.exm_ok (c.sx.t.d.fact 123 rfl)
  xUnlike_GlassError := He.exm_ok (c.sx.t.d.fact 124 rfl)
  xTooThick_GlassError := He.exm_ok (c.sx.t.d.fact 125 rfl)
  xBadTurn_GlassError := He.exm_ok (c.sx.t.d.fact 126 rfl)
  xBadDeed_GlassError := He.exm_ok (c.sx.t.d.fact 127 rfl)
  xBadLine_GlassError := He.exm_ok (c.sx.t.d.fact 128 rfl)
  xBadPage_BadPage := He.exm_ok (c.sx.t.d.fact 129 rfl)
  xNothingLeft_GlassError := He.exm_ok (c.sx.t.d.fact 130 rfl)
  xNothingLeft_NothingLeft := He.exm_ok (c.sx.t.d.fact 131 rfl)
  gSHAPES := He.glo_ok X G (c.sx.t.d.fact 132 rfl)
  uValueError := He.free_ok X G (c.sx.t.d.fact 133 rfl)
  uabs := He.free_ok X G (c.sx.t.d.fact 134 rfl)
  ubool := He.free_ok X G (c.sx.t.d.fact 135 rfl)
  udict := He.free_ok X G (c.sx.t.d.fact 136 rfl)
  uenumerate := He.free_ok X G (c.sx.t.d.fact 137 rfl)
  uint := He.free_ok X G (c.sx.t.d.fact 138 rfl)
  uisinstance := He.free_ok X G (c.sx.t.d.fact 139 rfl)
  ulen := He.free_ok X G (c.sx.t.d.fact 140 rfl)
  ulist := He.free_ok X G (c.sx.t.d.fact 141 rfl)
  umax := He.free_ok X G (c.sx.t.d.fact 142 rfl)
  umin := He.free_ok X G (c.sx.t.d.fact 143 rfl)
  urange := He.free_ok X G (c.sx.t.d.fact 144 rfl)
  usorted := He.free_ok X G (c.sx.t.d.fact 145 rfl)
  ustr := He.free_ok X G (c.sx.t.d.fact 146 rfl)
  utuple := He.free_ok X G (c.sx.t.d.fact 147 rfl)
  uzip := He.free_ok X G (c.sx.t.d.fact 148 rfl)
  iMOST := He.int_ok X G (c.sx.t.d.fact 149 rfl)
  iTHICKEST := He.int_ok X G (c.sx.t.d.fact 150 rfl)
  iLONGEST := He.int_ok X G (c.sx.t.d.fact 151 rfl)
  iCOLOURS := He.int_ok X G (c.sx.t.d.fact 152 rfl)
  iDEEPEST := He.int_ok X G (c.sx.t.d.fact 153 rfl)
  iFINEST := He.int_ok X G (c.sx.t.d.fact 154 rfl)
  zFIGURES := He.str_ok X G (c.sx.t.d.fact 155 rfl)
  tSHAPES := c.t
  oBadPage := oexB_ok c.sx.more
  fFaces___init__ := c.sx.t.d.def_ 0 (d := dFaces___init__) rfl
  fShop___init__ := c.sx.t.d.def_ 1 (d := dShop___init__) rfl
  fShop_rod := c.sx.t.d.def_ 2 (d := dShop_rod) rfl
  fFaces_need := c.sx.t.d.def_ 3 (d := dFaces_need) rfl
  fFaces_need_depth := c.sx.t.d.def_ 4 (d := dFaces_need_depth) rfl
  farea := c.sx.t.d.def_ 5 (d := darea) rfl
  fFaces_counts := c.sx.t.d.def_ 6 (d := dFaces_counts) rfl
  fShop_held_in := c.sx.t.d.def_ 7 (d := dShop_held_in) rfl
  fShop_kept := c.sx.t.d.def_ 8 (d := dShop_kept) rfl
  fShop_began := c.sx.t.d.def_ 9 (d := dShop_began) rfl
  fShop_gone := c.sx.t.d.def_ 10 (d := dShop_gone) rfl
  fShop_waste := c.sx.t.d.def_ 11 (d := dShop_waste) rfl
  fis_deed := c.sx.t.d.def_ 12 (d := dis_deed) rfl
  fShop_new_rod := c.sx.t.d.def_ 13 (d := dShop_new_rod) rfl
  fFaces_stored := c.sx.t.d.def_ 14 (d := dFaces_stored) rfl
  fFaces_plain := c.sx.t.d.def_ 15 (d := dFaces_plain) rfl
  fShop_gather := c.sx.t.d.def_ 16 (d := dShop_gather) rfl
  fFaces_depth := c.sx.t.d.def_ 17 (d := dFaces_depth) rfl
  fShop_pull := c.sx.t.d.def_ 18 (d := dShop_pull) rfl
  fFaces_four := c.sx.t.d.def_ 19 (d := dFaces_four) rfl
  fShop_bundle := c.sx.t.d.def_ 20 (d := dShop_bundle) rfl
  farranged := c.sx.t.d.def_ 21 (d := darranged) rfl
  fFaces_whirled := c.sx.t.d.def_ 22 (d := dFaces_whirled) rfl
  fFaces_turned := c.sx.t.d.def_ 23 (d := dFaces_turned) rfl
  fShop_turn := c.sx.t.d.def_ 24 (d := dShop_turn) rfl
  fShop_cut := c.sx.t.d.def_ 25 (d := dShop_cut) rfl
  fShop_fuse := c.sx.t.d.def_ 26 (d := dShop_fuse) rfl
  fShop_sell := c.sx.t.d.def_ 27 (d := dShop_sell) rfl
  fShop_do := c.sx.t.d.def_ 28 (d := dShop_do) rfl
  f_law_done := c.sx.t.d.def_ 29 (d := d_law_done) rfl
  f_law_row := c.sx.t.d.def_ 30 (d := d_law_row) rfl
  f_law_menu := c.sx.t.d.def_ 31 (d := d_law_menu) rfl
  f_law_four_of := c.sx.t.d.def_ 32 (d := d_law_four_of) rfl
  f_law_deed := c.sx.t.d.def_ 33 (d := d_law_deed) rfl
  fShop_glass := c.sx.t.d.def_ 34 (d := dShop_glass) rfl
  fShop_bundled := c.sx.t.d.def_ 35 (d := dShop_bundled) rfl
  fShop_look := c.sx.t.d.def_ 36 (d := dShop_look) rfl
  f_law_next := c.sx.t.d.def_ 37 (d := d_law_next) rfl
  f_law_play := c.sx.t.d.def_ 38 (d := d_law_play) rfl
  fwritten := c.sx.t.d.def_ 39 (d := dwritten) rfl
  fShop_deeds := c.sx.t.d.def_ 40 (d := dShop_deeds) rfl
  fpage := c.sx.t.d.def_ 41 (d := dpage) rfl
  fBadPage___init__ := c.sx.t.d.def_ 42 (d := dBadPage___init__) rfl
  fnumber_in := c.sx.t.d.def_ 43 (d := dnumber_in) rfl
  fread := c.sx.t.d.def_ 44 (d := dread) rfl
  fread_page := c.sx.t.d.def_ 45 (d := dread_page) rfl
  f_law_whole := c.sx.t.d.def_ 46 (d := d_law_whole) rfl
  f_law_like := c.sx.t.d.def_ 47 (d := d_law_like) rfl
  f_law_refused := c.sx.t.d.def_ 48 (d := d_law_refused) rfl
  f_law_bad := c.sx.t.d.def_ 49 (d := d_law_bad) rfl
  f_law_spoilt := c.sx.t.d.def_ 50 (d := d_law_spoilt) rfl
  fShop_become := c.sx.t.d.def_ 51 (d := dShop_become) rfl
  fShop_undo := c.sx.t.d.def_ 52 (d := dShop_undo) rfl
  fShop_rods := c.sx.t.d.def_ 53 (d := dShop_rods) rfl
  fShop_store := c.sx.t.d.def_ 54 (d := dShop_store) rfl
  fFaces_cell := c.sx.t.d.def_ 55 (d := dFaces_cell) rfl
  f_law_in_new_store := c.sx.t.d.def_ 56 (d := d_law_in_new_store) rfl
  f_law_cell := c.sx.t.d.def_ 57 (d := d_law_cell) rfl
  f_law_unfit := c.sx.t.d.def_ 58 (d := d_law_unfit) rfl
  fShop_redo := c.sx.t.d.def_ 59 (d := dShop_redo) rfl
  f_law_none_again := c.sx.t.d.def_ 60 (d := d_law_none_again) rfl
  fcopied := c.sx.t.d.def_ 61 (d := dcopied) rfl
  fShop_twin := c.sx.t.d.def_ 62 (d := dShop_twin) rfl
  flaw := c.sx.t.d.def_ 63 (d := dlaw) rfl
def spInitF (C : Addr) : Sp := fun vs H Q _ => ∃ p dx : Addr, vs = [.ref p] ∧ H p = some (.ins C dx []) ∧ ∀ H' A D, (∀ b o, H b = some o → b ≠ p → H' b = some o) → FacesAt C H' p A D [] → (∀ b, D b → b = p ∨ H b = none) → Q .non H'
theorem z_mkFaces {C : Addr} {σ : L2.St} {H : Hp} {Q : VK} {E : XK} (k : ∀ H' p A D, Same H H' → FacesAt C H' p A D [] → (∀ b, D b → H b = none) → Q (.ref p) H') : tMake C (spInitF C) [] E tNil σ H Q := by
  intro x dx hx hdx hne
  refine ⟨x, dx, rfl, upd_same, fun H' A D h1 h2 h3 => ⟨rfl, k H' x A D (fun b o e => h1 b o (by rw [upd_ne (ne_of_none e hx), upd_ne (ne_of_none e hdx)]; exact e) (ne_of_none e hx)) h2 fun b hb => ?_⟩⟩
  rcases h3 b hb with rfl | z
  · exact hx
  · by_cases e1 : b = x
    · rw [e1]; exact hx
    · rw [upd_ne e1] at z
      by_cases e2 : b = dx
      · rw [e2]; exact hdx
      · rw [upd_ne e2] at z; exact z
abbrev nFaces___init__ : List Str := ["self"]
abbrev pFaces___init__ : List Str := ["self"]
theorem scFaces___init__ : FnScope nFaces___init__ pFaces___init__ (defScope sFaces___init__) := ⟨rfl, rfl, rfl, by decide +kernel, rfl, by decide +kernel, by decide +kernel⟩
theorem ok_Faces___init__ {P : Program} {w : World} {K : PySem.W.Frag} {mg : Str → Option Value} {base : Heap} (T : Tx w K mg) : Fk P w K mg base 1 (He.ma K (He.ga K "Faces") "__init__") pFaces___init__ (spInitF (He.ga K "Faces")) := by
  refine Fk.mk' T.fFaces___init__ scFaces___init__ (fun _ _ _ _ _ _ us hl => match us, hl with | [_], _ => rfl) (by
  intro vs H Q E h
  repeat (first | (obtain ⟨h1, _⟩ := h; subst h1; rfl) | (obtain ⟨_, h⟩ := h))) (fun cdv A outer s H vs Q E hr h => ?_)
  have hu := hu_of hr
  have hu64 := hr.units
  refine ⟨_, (pss_cons (k_sfld K (pv 0) (pe_lst pa_nil) rfl)
  (pss_cons (k_sfld K (pv 0) (pe_lst pa_nil) rfl)
  (pss_cons (k_sfld K (pv 0) (pe_lst pa_nil) rfl)
  (pss_cons (k_sfld K (pv 0) pe_dnewT rfl)
  (pss_one (k_sfld K (pv 0) pe_dnewT rfl)))))), ?_⟩
  try dsimp only [cxOf]
  obtain ⟨p, dx, rfl, hp, q⟩ := h
  walk_at "z"
  refine ⟨sz1000 (by simp), fun n hn => ?_⟩
  walk_at "z"
  refine z_sfldR (fs' := [("nodes", .ref n)]) (by rw [upd_ne (ne_of_none hp hn)]; exact hp) T.cFaces T.aFaces_nodes (by simp) (by rfl) ?_
  have st := init_step (o := .lst []) (fs' := [("nodes", .ref n)]) hp hn
  generalize upd (upd H n _) p _ = H1 at st ⊢
  obtain ⟨hp1, fn, k1, np⟩ := st
  walk_at "z"
  refine ⟨sz1000 (by simp), fun d hd => ?_⟩
  walk_at "z"
  refine z_sfldR (fs' := [("nodes", .ref n), ("depths", .ref d)]) (by rw [upd_ne (ne_of_none hp1 hd)]; exact hp1) T.cFaces T.aFaces_depths (by simp) (by rfl) ?_
  have st := init_step (o := .lst []) (fs' := [("nodes", .ref n), ("depths", .ref d)]) hp1 hd
  generalize upd (upd H1 d _) p _ = H2 at st ⊢
  obtain ⟨hp2, fd, k2, dp⟩ := st
  walk_at "z"
  refine ⟨sz1000 (by simp), fun s2 hs2 => ?_⟩
  walk_at "z"
  refine z_sfldR (fs' := [("nodes", .ref n), ("depths", .ref d), ("sums", .ref s2)]) (by rw [upd_ne (ne_of_none hp2 hs2)]; exact hp2) T.cFaces T.aFaces_sums (by simp) (by rfl) ?_
  have st := init_step (o := .lst []) (fs' := [("nodes", .ref n), ("depths", .ref d), ("sums", .ref s2)]) hp2 hs2
  generalize upd (upd H2 s2 _) p _ = H3 at st ⊢
  obtain ⟨hp3, fs2, k3, s2p⟩ := st
  walk_at "z"
  intro k hk
  walk_at "z"
  refine z_sfldR (fs' := [("nodes", .ref n), ("depths", .ref d), ("sums", .ref s2), ("known", .ref k)]) (by rw [upd_ne (ne_of_none hp3 hk)]; exact hp3) T.cFaces T.aFaces_known (by simp) (by rfl) ?_
  have st := init_step (o := .dT []) (fs' := [("nodes", .ref n), ("depths", .ref d), ("sums", .ref s2), ("known", .ref k)]) hp3 hk
  generalize upd (upd H3 k _) p _ = H4 at st ⊢
  obtain ⟨hp4, fk, k4, kp⟩ := st
  walk_at "z"
  intro w2 hw2
  walk_at "z"
  refine z_sfldR (fs' := [("nodes", .ref n), ("depths", .ref d), ("sums", .ref s2), ("known", .ref k), ("whirls", .ref w2)]) (by rw [upd_ne (ne_of_none hp4 hw2)]; exact hp4) T.cFaces T.aFaces_whirls (by simp) (by rfl) ?_
  have st := init_step (o := .dT []) (fs' := [("nodes", .ref n), ("depths", .ref d), ("sums", .ref s2), ("known", .ref k), ("whirls", .ref w2)]) hp4 hw2
  generalize upd (upd H4 w2 _) p _ = H5 at st ⊢
  obtain ⟨hp5, fw2, k5, w2p⟩ := st
  walk_at "z"
  have gn := k5 _ _ (k4 _ _ (k3 _ _ (k2 _ _ fn np) np) np) np
  have gd := k5 _ _ (k4 _ _ (k3 _ _ fd dp) dp) dp
  have gs := k5 _ _ (k4 _ _ fs2 s2p) s2p
  have gk := k5 _ _ fk kp
  have hn0 : ∀ b u, H b = some u → b ≠ p → H5 b = some u := fun b u e h => k5 _ _ (k4 _ _ (k3 _ _ (k2 _ _ (k1 _ _ e h) h) h) h) h
  have bk : ∀ {b : Addr} {Ha Hb : Hp}, (∀ b u, Ha b = some u → b ≠ p → Hb b = some u) → b ≠ p → Hb b = none → Ha b = none := fun {b Ha Hb} k hb e => by
    cases q : Ha b with
    | none => rfl
    | some u => rw [k b u q hb] at e; cases e
  refine q H5 ⟨n, d, s2, k, w2⟩ (fun b => b = p ∨ b = n ∨ b = d ∨ b = s2 ∨ b = k ∨ b = w2) hn0 ⟨⟨dx, hp5⟩, ⟨[], gn, rfl, fun i a P e1 e2 => by simp at e1⟩, gd, ⟨[], gs, rfl, fun i a P e1 e2 => by simp at e1⟩, ⟨[], gk, KnOk.nil⟩, ⟨[], fw2, WhOk.nil⟩, PInv.nil, .inl rfl, ?_, ?_, ?_⟩ ?_
  · rintro b (rfl | rfl | rfl | rfl | rfl) <;> simp
  · rintro b (rfl | rfl | rfl | rfl | rfl | rfl)
    · exact ⟨_, hp5⟩
    · exact ⟨_, gn⟩
    · exact ⟨_, gd⟩
    · exact ⟨_, gs⟩
    · exact ⟨_, gk⟩
    · exact ⟨_, fw2⟩
  · exact ⟨ne_of_none fn hd, ne_of_none (k2 _ _ fn np) hs2, ne_of_none fd hs2, ne_of_none fk hw2⟩
  · rintro b (rfl | rfl | rfl | rfl | rfl | rfl)
    · exact .inl rfl
    · exact .inr hn
    · exact .inr (bk k1 dp hd)
    · exact .inr (bk k1 s2p (bk k2 s2p hs2))
    · exact .inr (bk k1 kp (bk k2 kp (bk k3 kp hk)))
    · exact .inr (bk k1 w2p (bk k2 w2p (bk k3 w2p (bk k4 w2p hw2))))
abbrev nShop___init__ : List Str := ["self", "faces"]
abbrev pShop___init__ : List Str := ["self", "faces"]
theorem scShop___init__ : FnScope nShop___init__ pShop___init__ (defScope sShop___init__) := ⟨rfl, rfl, rfl, by decide +kernel, rfl, by decide +kernel, by decide +kernel⟩
theorem ok_Shop___init__ {P : Program} {w : World} {K : PySem.W.Frag} {mg : Str → Option Value} {base : Heap} (T : Tx w K mg) : Fk P w K mg base 1 (He.ma K (He.ga K "Shop") "__init__") pShop___init__ (spInitS (He.ga K "Shop")) := by
  refine Fk.mk' T.fShop___init__ scShop___init__ (fun _ _ _ _ _ _ us hl => match us, hl with | [_, _], _ => rfl) (by
  intro vs H Q E h
  repeat (first | (obtain ⟨h1, _⟩ := h; subst h1; rfl) | (obtain ⟨_, h⟩ := h))) (fun cdv A outer s H vs Q E hr h => ?_)
  have hu := hu_of hr
  have hu64 := hr.units
  refine ⟨_, (pss_cons (k_sfld K (pv 0) (pv 1) rfl)
  (pss_cons (k_sfld K (pv 0) pe_dnewK rfl)
  (pss_cons (k_sfld K (pv 0) pe_int rfl)
  (pss_cons (k_sfld K (pv 0) (pe_tup (pa_cons (pe_op op_mulU (pe_lst (pa_cons pe_int pa_nil)) pe_int) (pa_cons (pe_op op_mulU (pe_lst (pa_cons pe_int pa_nil)) pe_int) (pa_cons (pe_op op_mulU (pe_lst (pa_cons pe_int pa_nil)) pe_int) pa_nil)))) rfl)
  (pss_cons (k_sfld K (pv 0) (pe_lst pa_nil) rfl)
  (pss_cons (k_sfld K (pv 0) (pe_lst pa_nil) rfl)
  (pss_cons (k_sfld K (pv 0) (pe_lst pa_nil) rfl)
  (pss_one (k_sfld K (pv 0) (pe_lst pa_nil) rfl))))))))), ?_⟩
  try dsimp only [cxOf]
  obtain ⟨s0, dx, p, rfl, hs, q⟩ := h
  walk_at "z"
  have bk : ∀ {b : Addr} {Ha Hb : Hp}, (∀ b u, Ha b = some u → b ≠ s0 → Hb b = some u) → b ≠ s0 → Hb b = none → Ha b = none := fun {b Ha Hb} k hb e => by
    cases q : Ha b with
    | none => rfl
    | some u => rw [k b u q hb] at e; cases e
  refine z_sfldR (fs' := [("faces", .ref p)]) hs T.cShop T.aShop_faces (by simp) (by rfl) ?_
  have p1 : (upd H s0 (.ins (He.ga K "Shop") dx [("faces", .ref p)])) s0 = some (.ins (He.ga K "Shop") dx [("faces", .ref p)]) := upd_same
  have k1 : ∀ b u, H b = some u → b ≠ s0 → (upd H s0 (.ins (He.ga K "Shop") dx [("faces", .ref p)])) b = some u := fun b u e hb => by rw [upd_ne hb]; exact e
  generalize upd H s0 _ = G1 at p1 k1 ⊢
  walk_at "z"
  intro d fd
  generalize hG2 : upd G1 d _ = G2
  have s2 := new_same fd hG2
  have ad := new_at hG2
  clear hG2
  have nd : d ≠ s0 := (ne_of_none p1 fd).symm
  have c2 := s2 _ _ p1
  have zd : H d = none := (bk k1 nd fd)
  walk_at "z"
  refine z_sfldR (fs' := [("faces", .ref p), ("standing", .ref d)]) c2 T.cShop T.aShop_standing (by simp) (by rfl) ?_
  have p3 : (upd G2 s0 (.ins (He.ga K "Shop") dx [("faces", .ref p), ("standing", .ref d)])) s0 = some (.ins (He.ga K "Shop") dx [("faces", .ref p), ("standing", .ref d)]) := upd_same
  have k3 : ∀ b u, G2 b = some u → b ≠ s0 → (upd G2 s0 (.ins (He.ga K "Shop") dx [("faces", .ref p), ("standing", .ref d)])) b = some u := fun b u e hb => by rw [upd_ne hb]; exact e
  generalize upd G2 s0 _ = G3 at p3 k3 ⊢
  have ed_3 := k3 _ _ ad nd
  walk_at "z"
  refine z_sfldR (fs' := [("faces", .ref p), ("standing", .ref d), ("coming", .int 1)]) p3 T.cShop T.aShop_coming (by simp) (by rfl) ?_
  have p4 : (upd G3 s0 (.ins (He.ga K "Shop") dx [("faces", .ref p), ("standing", .ref d), ("coming", .int 1)])) s0 = some (.ins (He.ga K "Shop") dx [("faces", .ref p), ("standing", .ref d), ("coming", .int 1)]) := upd_same
  have k4 : ∀ b u, G3 b = some u → b ≠ s0 → (upd G3 s0 (.ins (He.ga K "Shop") dx [("faces", .ref p), ("standing", .ref d), ("coming", .int 1)])) b = some u := fun b u e hb => by rw [upd_ne hb]; exact e
  generalize upd G3 s0 _ = G4 at p4 k4 ⊢
  have ed_4 := k4 _ _ ed_3 nd
  walk_at "z"
  refine ⟨sz1000 (by simp), ?_⟩
  intro t0 ft0
  generalize hG5 : upd G4 t0 _ = G5
  have s5 := new_same ft0 hG5
  have at0 := new_at hG5
  clear hG5
  have nt0 : t0 ≠ s0 := (ne_of_none p4 ft0).symm
  have d_d_t0 : d ≠ t0 := ne_of_none ed_4 ft0
  have ed_5 := s5 _ _ ed_4
  have c5 := s5 _ _ p4
  have zt0 : H t0 = none := (bk k1 nt0 (s2.free (bk k3 nt0 (bk k4 nt0 ft0))))
  walk_at "z"
  refine z_mulL at0 (by decide) (by decide) (by decide) ?_
  intro l0 fl0
  generalize hG6 : upd G5 l0 _ = G6
  have s6 := new_same fl0 hG6
  have al0 := new_at hG6
  clear hG6
  have nl0 : l0 ≠ s0 := (ne_of_none c5 fl0).symm
  have d_d_l0 : d ≠ l0 := ne_of_none ed_5 fl0
  have ed_6 := s6 _ _ ed_5
  have d_t0_l0 : t0 ≠ l0 := ne_of_none at0 fl0
  have et0_6 := s6 _ _ at0
  have c6 := s6 _ _ c5
  have zl0 : H l0 = none := (bk k1 nl0 (s2.free (bk k3 nl0 (bk k4 nl0 (s5.free fl0)))))
  walk_at "z"
  refine ⟨sz1000 (by simp), ?_⟩
  intro t1 ft1
  generalize hG7 : upd G6 t1 _ = G7
  have s7 := new_same ft1 hG7
  have at1 := new_at hG7
  clear hG7
  have nt1 : t1 ≠ s0 := (ne_of_none c6 ft1).symm
  have d_d_t1 : d ≠ t1 := ne_of_none ed_6 ft1
  have ed_7 := s7 _ _ ed_6
  have d_t0_t1 : t0 ≠ t1 := ne_of_none et0_6 ft1
  have et0_7 := s7 _ _ et0_6
  have d_l0_t1 : l0 ≠ t1 := ne_of_none al0 ft1
  have el0_7 := s7 _ _ al0
  have c7 := s7 _ _ c6
  have zt1 : H t1 = none := (bk k1 nt1 (s2.free (bk k3 nt1 (bk k4 nt1 (s5.free (s6.free ft1))))))
  walk_at "z"
  refine z_mulL at1 (by decide) (by decide) (by decide) ?_
  intro l1 fl1
  generalize hG8 : upd G7 l1 _ = G8
  have s8 := new_same fl1 hG8
  have al1 := new_at hG8
  clear hG8
  have nl1 : l1 ≠ s0 := (ne_of_none c7 fl1).symm
  have d_d_l1 : d ≠ l1 := ne_of_none ed_7 fl1
  have ed_8 := s8 _ _ ed_7
  have d_t0_l1 : t0 ≠ l1 := ne_of_none et0_7 fl1
  have et0_8 := s8 _ _ et0_7
  have d_l0_l1 : l0 ≠ l1 := ne_of_none el0_7 fl1
  have el0_8 := s8 _ _ el0_7
  have d_t1_l1 : t1 ≠ l1 := ne_of_none at1 fl1
  have et1_8 := s8 _ _ at1
  have c8 := s8 _ _ c7
  have zl1 : H l1 = none := (bk k1 nl1 (s2.free (bk k3 nl1 (bk k4 nl1 (s5.free (s6.free (s7.free fl1)))))))
  walk_at "z"
  refine ⟨sz1000 (by simp), ?_⟩
  intro t2 ft2
  generalize hG9 : upd G8 t2 _ = G9
  have s9 := new_same ft2 hG9
  have at2 := new_at hG9
  clear hG9
  have nt2 : t2 ≠ s0 := (ne_of_none c8 ft2).symm
  have d_d_t2 : d ≠ t2 := ne_of_none ed_8 ft2
  have ed_9 := s9 _ _ ed_8
  have d_t0_t2 : t0 ≠ t2 := ne_of_none et0_8 ft2
  have et0_9 := s9 _ _ et0_8
  have d_l0_t2 : l0 ≠ t2 := ne_of_none el0_8 ft2
  have el0_9 := s9 _ _ el0_8
  have d_t1_t2 : t1 ≠ t2 := ne_of_none et1_8 ft2
  have et1_9 := s9 _ _ et1_8
  have d_l1_t2 : l1 ≠ t2 := ne_of_none al1 ft2
  have el1_9 := s9 _ _ al1
  have c9 := s9 _ _ c8
  have zt2 : H t2 = none := (bk k1 nt2 (s2.free (bk k3 nt2 (bk k4 nt2 (s5.free (s6.free (s7.free (s8.free ft2))))))))
  walk_at "z"
  refine z_mulL at2 (by decide) (by decide) (by decide) ?_
  intro l2 fl2
  generalize hG10 : upd G9 l2 _ = G10
  have s10 := new_same fl2 hG10
  have al2 := new_at hG10
  clear hG10
  have nl2 : l2 ≠ s0 := (ne_of_none c9 fl2).symm
  have d_d_l2 : d ≠ l2 := ne_of_none ed_9 fl2
  have ed_10 := s10 _ _ ed_9
  have d_t0_l2 : t0 ≠ l2 := ne_of_none et0_9 fl2
  have et0_10 := s10 _ _ et0_9
  have d_l0_l2 : l0 ≠ l2 := ne_of_none el0_9 fl2
  have el0_10 := s10 _ _ el0_9
  have d_t1_l2 : t1 ≠ l2 := ne_of_none et1_9 fl2
  have et1_10 := s10 _ _ et1_9
  have d_l1_l2 : l1 ≠ l2 := ne_of_none el1_9 fl2
  have el1_10 := s10 _ _ el1_9
  have d_t2_l2 : t2 ≠ l2 := ne_of_none at2 fl2
  have et2_10 := s10 _ _ at2
  have c10 := s10 _ _ c9
  have zl2 : H l2 = none := (bk k1 nl2 (s2.free (bk k3 nl2 (bk k4 nl2 (s5.free (s6.free (s7.free (s8.free (s9.free fl2)))))))))
  walk_at "z"
  refine ⟨sz1000 (by simp), ?_⟩
  intro am fam
  generalize hG11 : upd G10 am _ = G11
  have s11 := new_same fam hG11
  have aam := new_at hG11
  clear hG11
  have nam : am ≠ s0 := (ne_of_none c10 fam).symm
  have d_d_am : d ≠ am := ne_of_none ed_10 fam
  have ed_11 := s11 _ _ ed_10
  have d_t0_am : t0 ≠ am := ne_of_none et0_10 fam
  have et0_11 := s11 _ _ et0_10
  have d_l0_am : l0 ≠ am := ne_of_none el0_10 fam
  have el0_11 := s11 _ _ el0_10
  have d_t1_am : t1 ≠ am := ne_of_none et1_10 fam
  have et1_11 := s11 _ _ et1_10
  have d_l1_am : l1 ≠ am := ne_of_none el1_10 fam
  have el1_11 := s11 _ _ el1_10
  have d_t2_am : t2 ≠ am := ne_of_none et2_10 fam
  have et2_11 := s11 _ _ et2_10
  have d_l2_am : l2 ≠ am := ne_of_none al2 fam
  have el2_11 := s11 _ _ al2
  have c11 := s11 _ _ c10
  have zam : H am = none := (bk k1 nam (s2.free (bk k3 nam (bk k4 nam (s5.free (s6.free (s7.free (s8.free (s9.free (s10.free fam))))))))))
  walk_at "z"
  refine z_sfldR (fs' := [("faces", .ref p), ("standing", .ref d), ("coming", .int 1), ("amounts", .ref am)]) c11 T.cShop T.aShop_amounts (by simp) (by rfl) ?_
  have p12 : (upd G11 s0 (.ins (He.ga K "Shop") dx [("faces", .ref p), ("standing", .ref d), ("coming", .int 1), ("amounts", .ref am)])) s0 = some (.ins (He.ga K "Shop") dx [("faces", .ref p), ("standing", .ref d), ("coming", .int 1), ("amounts", .ref am)]) := upd_same
  have k12 : ∀ b u, G11 b = some u → b ≠ s0 → (upd G11 s0 (.ins (He.ga K "Shop") dx [("faces", .ref p), ("standing", .ref d), ("coming", .int 1), ("amounts", .ref am)])) b = some u := fun b u e hb => by rw [upd_ne hb]; exact e
  generalize upd G11 s0 _ = G12 at p12 k12 ⊢
  have ed_12 := k12 _ _ ed_11 nd
  have et0_12 := k12 _ _ et0_11 nt0
  have el0_12 := k12 _ _ el0_11 nl0
  have et1_12 := k12 _ _ et1_11 nt1
  have el1_12 := k12 _ _ el1_11 nl1
  have et2_12 := k12 _ _ et2_11 nt2
  have el2_12 := k12 _ _ el2_11 nl2
  have eam_12 := k12 _ _ aam nam
  walk_at "z"
  refine ⟨sz1000 (by simp), ?_⟩
  intro bb fbb
  generalize hG13 : upd G12 bb _ = G13
  have s13 := new_same fbb hG13
  have abb := new_at hG13
  clear hG13
  have nbb : bb ≠ s0 := (ne_of_none p12 fbb).symm
  have d_d_bb : d ≠ bb := ne_of_none ed_12 fbb
  have ed_13 := s13 _ _ ed_12
  have d_t0_bb : t0 ≠ bb := ne_of_none et0_12 fbb
  have et0_13 := s13 _ _ et0_12
  have d_l0_bb : l0 ≠ bb := ne_of_none el0_12 fbb
  have el0_13 := s13 _ _ el0_12
  have d_t1_bb : t1 ≠ bb := ne_of_none et1_12 fbb
  have et1_13 := s13 _ _ et1_12
  have d_l1_bb : l1 ≠ bb := ne_of_none el1_12 fbb
  have el1_13 := s13 _ _ el1_12
  have d_t2_bb : t2 ≠ bb := ne_of_none et2_12 fbb
  have et2_13 := s13 _ _ et2_12
  have d_l2_bb : l2 ≠ bb := ne_of_none el2_12 fbb
  have el2_13 := s13 _ _ el2_12
  have d_am_bb : am ≠ bb := ne_of_none eam_12 fbb
  have eam_13 := s13 _ _ eam_12
  have c13 := s13 _ _ p12
  have zbb : H bb = none := (bk k1 nbb (s2.free (bk k3 nbb (bk k4 nbb (s5.free (s6.free (s7.free (s8.free (s9.free (s10.free (s11.free (bk k12 nbb fbb))))))))))))
  walk_at "z"
  refine z_sfldR (fs' := [("faces", .ref p), ("standing", .ref d), ("coming", .int 1), ("amounts", .ref am), ("bundles", .ref bb)]) c13 T.cShop T.aShop_bundles (by simp) (by rfl) ?_
  have p14 : (upd G13 s0 (.ins (He.ga K "Shop") dx [("faces", .ref p), ("standing", .ref d), ("coming", .int 1), ("amounts", .ref am), ("bundles", .ref bb)])) s0 = some (.ins (He.ga K "Shop") dx [("faces", .ref p), ("standing", .ref d), ("coming", .int 1), ("amounts", .ref am), ("bundles", .ref bb)]) := upd_same
  have k14 : ∀ b u, G13 b = some u → b ≠ s0 → (upd G13 s0 (.ins (He.ga K "Shop") dx [("faces", .ref p), ("standing", .ref d), ("coming", .int 1), ("amounts", .ref am), ("bundles", .ref bb)])) b = some u := fun b u e hb => by rw [upd_ne hb]; exact e
  generalize upd G13 s0 _ = G14 at p14 k14 ⊢
  have ed_14 := k14 _ _ ed_13 nd
  have et0_14 := k14 _ _ et0_13 nt0
  have el0_14 := k14 _ _ el0_13 nl0
  have et1_14 := k14 _ _ et1_13 nt1
  have el1_14 := k14 _ _ el1_13 nl1
  have et2_14 := k14 _ _ et2_13 nt2
  have el2_14 := k14 _ _ el2_13 nl2
  have eam_14 := k14 _ _ eam_13 nam
  have ebb_14 := k14 _ _ abb nbb
  walk_at "z"
  refine ⟨sz1000 (by simp), ?_⟩
  intro de fde
  generalize hG15 : upd G14 de _ = G15
  have s15 := new_same fde hG15
  have ade := new_at hG15
  clear hG15
  have nde : de ≠ s0 := (ne_of_none p14 fde).symm
  have d_d_de : d ≠ de := ne_of_none ed_14 fde
  have ed_15 := s15 _ _ ed_14
  have d_t0_de : t0 ≠ de := ne_of_none et0_14 fde
  have et0_15 := s15 _ _ et0_14
  have d_l0_de : l0 ≠ de := ne_of_none el0_14 fde
  have el0_15 := s15 _ _ el0_14
  have d_t1_de : t1 ≠ de := ne_of_none et1_14 fde
  have et1_15 := s15 _ _ et1_14
  have d_l1_de : l1 ≠ de := ne_of_none el1_14 fde
  have el1_15 := s15 _ _ el1_14
  have d_t2_de : t2 ≠ de := ne_of_none et2_14 fde
  have et2_15 := s15 _ _ et2_14
  have d_l2_de : l2 ≠ de := ne_of_none el2_14 fde
  have el2_15 := s15 _ _ el2_14
  have d_am_de : am ≠ de := ne_of_none eam_14 fde
  have eam_15 := s15 _ _ eam_14
  have d_bb_de : bb ≠ de := ne_of_none ebb_14 fde
  have ebb_15 := s15 _ _ ebb_14
  have c15 := s15 _ _ p14
  have zde : H de = none := (bk k1 nde (s2.free (bk k3 nde (bk k4 nde (s5.free (s6.free (s7.free (s8.free (s9.free (s10.free (s11.free (bk k12 nde (s13.free (bk k14 nde fde))))))))))))))
  walk_at "z"
  refine z_sfldR (fs' := [("faces", .ref p), ("standing", .ref d), ("coming", .int 1), ("amounts", .ref am), ("bundles", .ref bb), ("deeds_done", .ref de)]) c15 T.cShop T.aShop_deeds_done (by simp) (by rfl) ?_
  have p16 : (upd G15 s0 (.ins (He.ga K "Shop") dx [("faces", .ref p), ("standing", .ref d), ("coming", .int 1), ("amounts", .ref am), ("bundles", .ref bb), ("deeds_done", .ref de)])) s0 = some (.ins (He.ga K "Shop") dx [("faces", .ref p), ("standing", .ref d), ("coming", .int 1), ("amounts", .ref am), ("bundles", .ref bb), ("deeds_done", .ref de)]) := upd_same
  have k16 : ∀ b u, G15 b = some u → b ≠ s0 → (upd G15 s0 (.ins (He.ga K "Shop") dx [("faces", .ref p), ("standing", .ref d), ("coming", .int 1), ("amounts", .ref am), ("bundles", .ref bb), ("deeds_done", .ref de)])) b = some u := fun b u e hb => by rw [upd_ne hb]; exact e
  generalize upd G15 s0 _ = G16 at p16 k16 ⊢
  have ed_16 := k16 _ _ ed_15 nd
  have et0_16 := k16 _ _ et0_15 nt0
  have el0_16 := k16 _ _ el0_15 nl0
  have et1_16 := k16 _ _ et1_15 nt1
  have el1_16 := k16 _ _ el1_15 nl1
  have et2_16 := k16 _ _ et2_15 nt2
  have el2_16 := k16 _ _ el2_15 nl2
  have eam_16 := k16 _ _ eam_15 nam
  have ebb_16 := k16 _ _ ebb_15 nbb
  have ede_16 := k16 _ _ ade nde
  walk_at "z"
  refine ⟨sz1000 (by simp), ?_⟩
  intro lb flb
  generalize hG17 : upd G16 lb _ = G17
  have s17 := new_same flb hG17
  have alb := new_at hG17
  clear hG17
  have nlb : lb ≠ s0 := (ne_of_none p16 flb).symm
  have d_d_lb : d ≠ lb := ne_of_none ed_16 flb
  have ed_17 := s17 _ _ ed_16
  have d_t0_lb : t0 ≠ lb := ne_of_none et0_16 flb
  have et0_17 := s17 _ _ et0_16
  have d_l0_lb : l0 ≠ lb := ne_of_none el0_16 flb
  have el0_17 := s17 _ _ el0_16
  have d_t1_lb : t1 ≠ lb := ne_of_none et1_16 flb
  have et1_17 := s17 _ _ et1_16
  have d_l1_lb : l1 ≠ lb := ne_of_none el1_16 flb
  have el1_17 := s17 _ _ el1_16
  have d_t2_lb : t2 ≠ lb := ne_of_none et2_16 flb
  have et2_17 := s17 _ _ et2_16
  have d_l2_lb : l2 ≠ lb := ne_of_none el2_16 flb
  have el2_17 := s17 _ _ el2_16
  have d_am_lb : am ≠ lb := ne_of_none eam_16 flb
  have eam_17 := s17 _ _ eam_16
  have d_bb_lb : bb ≠ lb := ne_of_none ebb_16 flb
  have ebb_17 := s17 _ _ ebb_16
  have d_de_lb : de ≠ lb := ne_of_none ede_16 flb
  have ede_17 := s17 _ _ ede_16
  have c17 := s17 _ _ p16
  have zlb : H lb = none := (bk k1 nlb (s2.free (bk k3 nlb (bk k4 nlb (s5.free (s6.free (s7.free (s8.free (s9.free (s10.free (s11.free (bk k12 nlb (s13.free (bk k14 nlb (s15.free (bk k16 nlb flb))))))))))))))))
  walk_at "z"
  refine z_sfldR (fs' := [("faces", .ref p), ("standing", .ref d), ("coming", .int 1), ("amounts", .ref am), ("bundles", .ref bb), ("deeds_done", .ref de), ("behind", .ref lb)]) c17 T.cShop T.aShop_behind (by simp) (by rfl) ?_
  have p18 : (upd G17 s0 (.ins (He.ga K "Shop") dx [("faces", .ref p), ("standing", .ref d), ("coming", .int 1), ("amounts", .ref am), ("bundles", .ref bb), ("deeds_done", .ref de), ("behind", .ref lb)])) s0 = some (.ins (He.ga K "Shop") dx [("faces", .ref p), ("standing", .ref d), ("coming", .int 1), ("amounts", .ref am), ("bundles", .ref bb), ("deeds_done", .ref de), ("behind", .ref lb)]) := upd_same
  have k18 : ∀ b u, G17 b = some u → b ≠ s0 → (upd G17 s0 (.ins (He.ga K "Shop") dx [("faces", .ref p), ("standing", .ref d), ("coming", .int 1), ("amounts", .ref am), ("bundles", .ref bb), ("deeds_done", .ref de), ("behind", .ref lb)])) b = some u := fun b u e hb => by rw [upd_ne hb]; exact e
  generalize upd G17 s0 _ = G18 at p18 k18 ⊢
  have ed_18 := k18 _ _ ed_17 nd
  have et0_18 := k18 _ _ et0_17 nt0
  have el0_18 := k18 _ _ el0_17 nl0
  have et1_18 := k18 _ _ et1_17 nt1
  have el1_18 := k18 _ _ el1_17 nl1
  have et2_18 := k18 _ _ et2_17 nt2
  have el2_18 := k18 _ _ el2_17 nl2
  have eam_18 := k18 _ _ eam_17 nam
  have ebb_18 := k18 _ _ ebb_17 nbb
  have ede_18 := k18 _ _ ede_17 nde
  have elb_18 := k18 _ _ alb nlb
  walk_at "z"
  refine ⟨sz1000 (by simp), ?_⟩
  intro la fla
  generalize hG19 : upd G18 la _ = G19
  have s19 := new_same fla hG19
  have ala := new_at hG19
  clear hG19
  have nla : la ≠ s0 := (ne_of_none p18 fla).symm
  have d_d_la : d ≠ la := ne_of_none ed_18 fla
  have ed_19 := s19 _ _ ed_18
  have d_t0_la : t0 ≠ la := ne_of_none et0_18 fla
  have et0_19 := s19 _ _ et0_18
  have d_l0_la : l0 ≠ la := ne_of_none el0_18 fla
  have el0_19 := s19 _ _ el0_18
  have d_t1_la : t1 ≠ la := ne_of_none et1_18 fla
  have et1_19 := s19 _ _ et1_18
  have d_l1_la : l1 ≠ la := ne_of_none el1_18 fla
  have el1_19 := s19 _ _ el1_18
  have d_t2_la : t2 ≠ la := ne_of_none et2_18 fla
  have et2_19 := s19 _ _ et2_18
  have d_l2_la : l2 ≠ la := ne_of_none el2_18 fla
  have el2_19 := s19 _ _ el2_18
  have d_am_la : am ≠ la := ne_of_none eam_18 fla
  have eam_19 := s19 _ _ eam_18
  have d_bb_la : bb ≠ la := ne_of_none ebb_18 fla
  have ebb_19 := s19 _ _ ebb_18
  have d_de_la : de ≠ la := ne_of_none ede_18 fla
  have ede_19 := s19 _ _ ede_18
  have d_lb_la : lb ≠ la := ne_of_none elb_18 fla
  have elb_19 := s19 _ _ elb_18
  have c19 := s19 _ _ p18
  have zla : H la = none := (bk k1 nla (s2.free (bk k3 nla (bk k4 nla (s5.free (s6.free (s7.free (s8.free (s9.free (s10.free (s11.free (bk k12 nla (s13.free (bk k14 nla (s15.free (bk k16 nla (s17.free (bk k18 nla fla))))))))))))))))))
  walk_at "z"
  refine z_sfldR (fs' := [("faces", .ref p), ("standing", .ref d), ("coming", .int 1), ("amounts", .ref am), ("bundles", .ref bb), ("deeds_done", .ref de), ("behind", .ref lb), ("ahead", .ref la)]) c19 T.cShop T.aShop_ahead (by simp) (by rfl) ?_
  have p20 : (upd G19 s0 (.ins (He.ga K "Shop") dx [("faces", .ref p), ("standing", .ref d), ("coming", .int 1), ("amounts", .ref am), ("bundles", .ref bb), ("deeds_done", .ref de), ("behind", .ref lb), ("ahead", .ref la)])) s0 = some (.ins (He.ga K "Shop") dx [("faces", .ref p), ("standing", .ref d), ("coming", .int 1), ("amounts", .ref am), ("bundles", .ref bb), ("deeds_done", .ref de), ("behind", .ref lb), ("ahead", .ref la)]) := upd_same
  have k20 : ∀ b u, G19 b = some u → b ≠ s0 → (upd G19 s0 (.ins (He.ga K "Shop") dx [("faces", .ref p), ("standing", .ref d), ("coming", .int 1), ("amounts", .ref am), ("bundles", .ref bb), ("deeds_done", .ref de), ("behind", .ref lb), ("ahead", .ref la)])) b = some u := fun b u e hb => by rw [upd_ne hb]; exact e
  generalize upd G19 s0 _ = G20 at p20 k20 ⊢
  have ed_20 := k20 _ _ ed_19 nd
  have et0_20 := k20 _ _ et0_19 nt0
  have el0_20 := k20 _ _ el0_19 nl0
  have et1_20 := k20 _ _ et1_19 nt1
  have el1_20 := k20 _ _ el1_19 nl1
  have et2_20 := k20 _ _ et2_19 nt2
  have el2_20 := k20 _ _ el2_19 nl2
  have eam_20 := k20 _ _ eam_19 nam
  have ebb_20 := k20 _ _ ebb_19 nbb
  have ede_20 := k20 _ _ ede_19 nde
  have elb_20 := k20 _ _ elb_19 nlb
  have ela_20 := k20 _ _ ala nla
  walk_at "z"
  refine q G20 ⟨dx, ⟨d, am, l0, l1, l2, bb, de⟩, lb, la, [], [], [], []⟩ (fun b u e hb => (k20 _ _ (s19 _ _ (k18 _ _ (s17 _ _ (k16 _ _ (s15 _ _ (k14 _ _ (s13 _ _ (k12 _ _ (s11 _ _ (s10 _ _ (s9 _ _ (s8 _ _ (s7 _ _ (s6 _ _ (s5 _ _ (k4 _ _ (k3 _ _ (s2 _ _ (k1 _ _ e hb)) hb) hb)))))))) hb)) hb)) hb)) hb)) hb)) ⟨p20, ⟨⟨[], ed_20, .nil⟩, eam_20, el0_20, el1_20, el2_20, ebb_20, ⟨[], ede_20, .nil⟩⟩, elb_20, .nil, ela_20, .nil, ?_⟩ ?_
  · simp only [SB.muts, SP.muts, List.flatMap_nil, List.append_nil, List.nodup_cons, List.mem_cons, List.mem_append, List.not_mem_nil, or_false, not_or, not_false_eq_true, List.nodup_nil, and_true, List.cons_append, List.nil_append]
    exact ⟨⟨nlb.symm, nla.symm, nd.symm, nl0.symm, nl1.symm, nl2.symm, nbb.symm, nde.symm⟩, ⟨d_lb_la, d_d_lb.symm, d_l0_lb.symm, d_l1_lb.symm, d_l2_lb.symm, d_bb_lb.symm, d_de_lb.symm⟩, ⟨d_d_la.symm, d_l0_la.symm, d_l1_la.symm, d_l2_la.symm, d_bb_la.symm, d_de_la.symm⟩, ⟨d_d_l0, d_d_l1, d_d_l2, d_d_bb, d_d_de⟩, ⟨d_l0_l1, d_l0_l2, d_l0_bb, d_l0_de⟩, ⟨d_l1_l2, d_l1_bb, d_l1_de⟩, ⟨d_l2_bb, d_l2_de⟩, d_bb_de⟩
  · intro y hy
    simp only [SB.muts, SP.muts, List.flatMap_nil, List.append_nil, List.mem_cons, List.mem_append, List.not_mem_nil, or_false, List.cons_append, List.nil_append] at hy
    rcases hy with rfl | rfl | rfl | rfl | rfl | rfl | rfl | rfl | rfl
    · exact .inl rfl
    · exact .inr zlb
    · exact .inr zla
    · exact .inr zd
    · exact .inr zl0
    · exact .inr zl1
    · exact .inr zl2
    · exact .inr zbb
    · exact .inr zde
abbrev nShop_rod : List Str := ["self", "number"]
abbrev pShop_rod : List Str := ["self", "number"]
theorem scShop_rod : FnScope nShop_rod pShop_rod (defScope sShop_rod) := ⟨rfl, rfl, rfl, by decide +kernel, rfl, by decide +kernel, by decide +kernel⟩
theorem ok_Shop_rod {P : Program} {w : World} {K : PySem.W.Frag} {mg : Str → Option Value} {base : Heap} (T : Tx w K mg) : Fk P w K mg base 1 (He.ma K (He.ga K "Shop") "rod") pShop_rod (spRod (He.ga K "Shop") (He.ga K "NoRod")) := by
  refine Fk.mk' T.fShop_rod scShop_rod (fun _ _ _ _ _ _ us hl => match us, hl with | [_, _], _ => rfl) (by
  intro vs H Q E h
  repeat (first | (obtain ⟨h1, _⟩ := h; subst h1; rfl) | (obtain ⟨_, h⟩ := h))) (fun cdv A outer s H vs Q E hr h => ?_)
  have hu := hu_of hr
  have hu64 := hr.units
  refine ⟨_, (pss_cons (ps_if (pt_cmp (pc_dnotin hu (pv 1) (k_fld K (pv 0) rfl))) (pss_one (ps_raise rfl takesX (pmk_own PySem.F.excBase_ValueError T.eNoRod.1 T.gNoRod T.eNoRod.2.1 (raises_own T.eNoRod.2.2.1 T.eNoRod.2.2.2) (by rfl)))) pss_nil)
  (pss_one (ps_ret (pe_dget hu (k_fld K (pv 0) rfl) (pv 1) (fun _ _ => rfl))))), ?_⟩
  try dsimp only [cxOf]
  obtain ⟨s0, p, B, now, n, rfl, hS, e, q⟩ := h
  obtain ⟨kvs, hk, hr⟩ := hS.d
  have hg : DGet H B.q.d (.int n) (valV kvs (.inl n)) := .inl ⟨kvs, .inl n, hk, rfl, rfl⟩
  walk_at "z"
  refine z_fldR hS.ob T.cShop T.aShop_standing lkS_standing ?_
  refine z_dniR hg ?_
  walk_at "z"
  rcases hr.find n with ⟨r, a, e1, e2, e3, e4⟩ | ⟨e1, e2⟩
  · rw [e2] at hg ⊢
    refine iteF ?_
    walk_at "z"
    refine z_fldR hS.ob T.cShop T.aShop_standing lkS_standing ?_
    walk_at "z"
    exact z_dgetR hg (q r a e1 e3)
  · rw [e2]
    refine iteT ?_
    walk_at "z"
    exact e e1
def spNeed (C N : Addr) : Sp := fun vs H Q E => ∃ p A D ps, ∃ f : Int, vs = [.ref p, .int f] ∧ FacesAt C H p A D ps ∧ ((0 ≤ f ∧ f < ps.length) → Q .non H) ∧ (¬ (0 ≤ f ∧ f < ps.length) → E (.ref N) none H)
abbrev nFaces_need : List Str := ["self", "face"]
abbrev pFaces_need : List Str := ["self", "face"]
theorem scFaces_need : FnScope nFaces_need pFaces_need (defScope sFaces_need) := ⟨rfl, rfl, rfl, by decide +kernel, rfl, by decide +kernel, by decide +kernel⟩
theorem ok_Faces_need {P : Program} {w : World} {K : PySem.W.Frag} {mg : Str → Option Value} {base : Heap} (T : Tx w K mg) : Fk P w K mg base 1 (He.ma K (He.ga K "Faces") "need") pFaces_need (spNeed (He.ga K "Faces") (He.ga K "NoFace")) := by
  refine Fk.mk' T.fFaces_need scFaces_need (fun _ _ _ _ _ _ us hl => match us, hl with | [_, _], _ => rfl) (by
  intro vs H Q E h
  repeat (first | (obtain ⟨h1, _⟩ := h; subst h1; rfl) | (obtain ⟨_, h⟩ := h))) (fun cdv A outer s H vs Q E hr h => ?_)
  have hu := hu_of hr
  have hu64 := hr.units
  refine ⟨_, (pss_one (ps_if (PW.pt (pw_or (pt_cmpR op_lt (pv 1) pe_int (nomark _)) (pw_or1 (pt_cmpR op_ge (pv 1) (pe_callB (k_len K) (by rfl) T.ulen (by decide +kernel) (pa_cons (k_fld K (pv 0) rfl) pa_nil)) (nomark _))))) (pss_one (ps_raise rfl takesX (pmk_own PySem.F.excBase_ValueError T.eNoFace.1 T.gNoFace T.eNoFace.2.1 (raises_own T.eNoFace.2.2.1 T.eNoFace.2.2.2) (by rfl)))) pss_nil)), ?_⟩
  try dsimp only [cxOf]
  obtain ⟨p, A, D, ps, f, rfl, hF, q, e⟩ := h
  obtain ⟨dx, ob⟩ := hF.ob
  obtain ⟨ns, hn, hl⟩ := hF.len
  walk_at "z"
  refine z_ite (fun c => ?_) (fun c => ?_)
  · walk_at "z"
    exact e (by omega)
  · walk_at "z"
    refine z_fldR ob T.cFaces T.aFaces_nodes lkFaces_nodes ?_
    walk_at "z"
    refine z_lenL (SqL.of hn) ?_
    walk_at "z"
    rw [List.length_map, hl]
    refine z_ite (fun c2 => ?_) (fun c2 => ?_)
    · walk_at "z"
      exact e (by omega)
    · walk_at "z"
      exact q (by omega)
def spNeedD (C N B : Addr) : Sp := fun vs H Q E => ∃ p A D ps, ∃ f d : Int, vs = [.ref p, .int f, .int d] ∧ FacesAt C H p A D ps ∧ (¬ (0 ≤ f ∧ f < ps.length) → E (.ref N) none H) ∧
  ∀ P, IsF ps f P → (¬ ((P.depth : Nat) ≤ d ∧ d ≤ 20) → E (.ref B) none H) ∧ (((P.depth : Nat) ≤ d ∧ d ≤ 20) → Q .non H)
abbrev nFaces_need_depth : List Str := ["self", "face", "depth"]
abbrev pFaces_need_depth : List Str := ["self", "face", "depth"]
theorem scFaces_need_depth : FnScope nFaces_need_depth pFaces_need_depth (defScope sFaces_need_depth) := ⟨rfl, rfl, rfl, by decide +kernel, rfl, by decide +kernel, by decide +kernel⟩
theorem ok_Faces_need_depth {P : Program} {w : World} {K : PySem.W.Frag} {mg : Str → Option Value} {base : Heap} (T : Tx w K mg) : Fk P w K mg base 2 (He.ma K (He.ga K "Faces") "need_depth") pFaces_need_depth (spNeedD (He.ga K "Faces") (He.ga K "NoFace") (He.ga K "BadDepth")) := by
  have GFaces_need := ok_Faces_need (P := P) (w := w) (base := base) T
  refine Fk.mk' T.fFaces_need_depth scFaces_need_depth (fun _ _ _ _ _ _ us hl => match us, hl with | [_, _, _], _ => rfl) (by
  intro vs H Q E h
  repeat (first | (obtain ⟨h1, _⟩ := h; subst h1; rfl) | (obtain ⟨_, h⟩ := h))) (fun cdv A outer s H vs Q E hr h => ?_)
  have hu := hu_of hr
  have hu64 := hr.units
  refine ⟨_, (pss_cons (ps_expr (q_meth (pv 0) T.cFaces T.mFaces_need GFaces_need (hr.mono (by omega)) passX (pa_cons (pv 1) pa_nil)))
  (pss_one (ps_if (PW.pt (pw_or (pt_cmpR op_lt (pv 2) (k_ix K (k_fld K (pv 0) rfl) (pv 1) (fun _ _ => rfl)) (nomark _)) (pw_or1 (pt_cmpR op_gt (pv 2) (q_int T.iFINEST) (nomark _))))) (pss_one (ps_raise rfl takesX (pmk_own PySem.F.excBase_ValueError T.eBadDepth.1 T.gBadDepth T.eBadDepth.2.1 (raises_own T.eBadDepth.2.2.1 T.eBadDepth.2.2.2) (by rfl)))) pss_nil))), ?_⟩
  try dsimp only [cxOf]
  obtain ⟨p, A, D, ps, f, d, rfl, hF, e, q⟩ := h
  obtain ⟨dx, ob⟩ := hF.ob
  walk_at "z"
  refine z_methR ob noFaces_need ?_
  walk_at "z"
  refine ⟨p, A, D, ps, f, rfl, hF, fun c => ?_, e⟩
  obtain ⟨P, hP⟩ := IsF.ex c.1 c.2
  obtain ⟨q1, q2⟩ := q P hP
  walk_at "z"
  refine z_fldR ob T.cFaces T.aFaces_depths lkFaces_depths ?_
  walk_at "z"
  refine z_ixL (SqL.of hF.depths) (FacesAt.depthAt hP) ?_
  walk_at "z"
  refine z_ite (fun c1 => ?_) (fun c1 => ?_)
  · walk_at "z"
    exact q1 (by omega)
  walk_at "z"
  refine z_ite (fun c2 => ?_) (fun c2 => ?_)
  · walk_at "z"
    exact q1 (by omega)
  walk_at "z"
  exact q2 (by omega)
def spArea : Sp := fun vs H Q _ => ∃ d : Nat, vs = [.int (d : Nat)] ∧ d ≤ 1000 ∧ Q (.int (4 ^ d)) H
abbrev narea : List Str := ["depth"]
abbrev parea : List Str := ["depth"]
theorem scarea : FnScope narea parea (defScope sarea) := ⟨rfl, rfl, rfl, by decide +kernel, rfl, by decide +kernel, by decide +kernel⟩
theorem ok_area {P : Program} {w : World} {K : PySem.W.Frag} {mg : Str → Option Value} {base : Heap} (T : Tx w K mg) : Fk P w K mg base 1 (He.ga K "area") parea (spArea) := by
  refine Fk.mk' T.farea scarea (fun _ _ _ _ _ _ us hl => match us, hl with | [_], _ => rfl) (by
  intro vs H Q E h
  repeat (first | (obtain ⟨h1, _⟩ := h; subst h1; rfl) | (obtain ⟨_, h⟩ := h))) (fun cdv A outer s H vs Q E hr h => ?_)
  have hu := hu_of hr
  have hu64 := hr.units
  refine ⟨_, (pss_one (ps_ret (pe_op op_shl pe_int (pe_op op_mulU pe_int (pv 0))))), ?_⟩
  try dsimp only [cxOf]
  obtain ⟨d, rfl, hd, q⟩ := h
  walk_at "z"
  refine z_mulI (mulS (by decide) (by omega)) ?_
  walk_at "z"
  refine z_I ⟨by omega, by omega, by decide⟩ ?_
  walk_at "z"
  have e : (1 : Int) * 2 ^ (2 * (d : Int)).toNat = 4 ^ d := by
    have e1 : (2 * (d : Int)).toNat = 2 * d := by omega
    rw [e1, Int.one_mul, Int.pow_mul]
    rfl
  rw [e]
  exact q
def cntL (P : Pic) (e : Nat) : List Int := P.sums.map fun m => m * 4 ^ e
def spCounts (C N B : Addr) : Sp := fun vs H Q E => ∃ p A D ps, ∃ f d : Int, vs = [.ref p, .int f, .int d] ∧ FacesAt C H p A D ps ∧ (¬ (0 ≤ f ∧ f < ps.length) → E (.ref N) none H) ∧
  ∀ P, IsF ps f P → (¬ ((P.depth : Nat) ≤ d ∧ d ≤ 20) → E (.ref B) none H) ∧ (((P.depth : Nat) ≤ d ∧ d ≤ 20) → ∀ H' l, Same H H' → H l = none → H' l = some (.lst ((cntL P (d.toNat - P.depth)).map V.int)) → Q (.ref l) H')
theorem sums_rg {P : Pic} : ∀ m ∈ P.sums, 0 ≤ m ∧ m ≤ 4 ^ P.depth := by
  intro m hm
  simp only [Pic.sums, List.mem_map] at hm
  obtain ⟨k, _, rfl⟩ := hm
  exact cnt_bd P _
theorem turn_cntL {t : Int} (h0 : 0 ≤ t) (h8 : t < 8) (P : Pic) (e : Nat) : cntL (P.turn t) e = cntL P e := by
  unfold cntL Pic.sums
  congr 1
  apply List.map_congr_left
  intro k _
  exact turn_cnt h0 h8 P _
abbrev nFaces_counts : List Str := ["self", "face", "depth", "times", "many"]
abbrev pFaces_counts : List Str := ["self", "face", "depth"]
theorem scFaces_counts : FnScope nFaces_counts pFaces_counts (defScope sFaces_counts) := ⟨rfl, rfl, rfl, by decide +kernel, rfl, by decide +kernel, by decide +kernel⟩
theorem ok_Faces_counts {P : Program} {w : World} {K : PySem.W.Frag} {mg : Str → Option Value} {base : Heap} (T : Tx w K mg) : Fk P w K mg base 3 (He.ma K (He.ga K "Faces") "counts") pFaces_counts (spCounts (He.ga K "Faces") (He.ga K "NoFace") (He.ga K "BadDepth")) := by
  have GFaces_need_depth := ok_Faces_need_depth (P := P) (w := w) (base := base) T
  have Garea := ok_area (P := P) (w := w) (base := base) T
  refine Fk.mk' T.fFaces_counts scFaces_counts (fun _ _ _ _ _ _ us hl => match us, hl with | [_, _, _], _ => rfl) (by
  intro vs H Q E h
  repeat (first | (obtain ⟨h1, _⟩ := h; subst h1; rfl) | (obtain ⟨_, h⟩ := h))) (fun cdv A outer s H vs Q E hr h => ?_)
  have hu := hu_of hr
  have hu64 := hr.units
  refine ⟨_, (pss_cons (ps_expr (q_meth (pv 0) T.cFaces T.mFaces_need_depth GFaces_need_depth (hr.mono (by omega)) passX (pa_cons (pv 1) (pa_cons (pv 2) pa_nil))))
  (pss_cons (ps_set (i := 3) scFaces_counts.nd rfl (Or.inr rfl) (q_call Garea (hr.mono (by omega)) T.garea passX (pa_cons (pe_op op_sub (pv 2) (k_ix K (k_fld K (pv 0) rfl) (pv 1) (fun _ _ => rfl))) pa_nil)))
  (pss_one (ps_ret (pe_lc (own := [("many", 4)]) (g := gName 4) rfl scFaces_counts.nd (k_pil K (k_ix K (k_fld K (pv 0) rfl) (pv 1) (fun _ _ => rfl))) (blkOk_by (own := [("many", 4)]) (N := nFaces_counts) (sc := defScope sFaces_counts) (by decide +kernel)) (fun _ _ _ _ _ => pg_name (i := 4) scFaces_counts.nd rfl (Or.inl rfl)) (fun _ _ _ _ _ => pts_nil) (fun _ _ _ _ _ => (pe_op op_mulU (pv 4) (pv 3)))))))), ?_⟩
  try dsimp only [cxOf]
  obtain ⟨p, A, D, ps, f, d, rfl, hF, e, q⟩ := h
  obtain ⟨dx, ob⟩ := hF.ob
  walk_at "z"
  refine z_methR ob noFaces_need_depth ?_
  walk_at "z"
  refine ⟨p, A, D, ps, f, d, rfl, hF, e, fun P hP => ⟨(q P hP).1, fun hd => ?_⟩⟩
  have q2 := (q P hP).2 hd
  have hd12 := ok_depth (hF.inv.ok P hP.mem)
  walk_at "z"
  refine z_fldR ob T.cFaces T.aFaces_depths lkFaces_depths ?_
  walk_at "z"
  refine z_ixL (SqL.of hF.depths) (FacesAt.depthAt hP) ?_
  walk_at "z"
  refine ⟨d.toNat - P.depth, by
    have : d - ((P.depth : Nat) : Int) = ((d.toNat - P.depth : Nat) : Int) := by omega
    rw [this]
    rfl, by omega, ?_⟩
  walk_at "z"
  have hl1 : (4 : Int) ^ (d.toNat - P.depth) ≤ 4 ^ 20 := pow4_le (by omega)
  have hl2 : (4 : Int) ^ P.depth ≤ 4 ^ 12 := pow4_le (by omega)
  have e20 : (4 : Int) ^ 20 = 1099511627776 := by decide
  have e12 : (4 : Int) ^ 12 = 16777216 := by decide
  have hp4 := pow4 (d.toNat - P.depth)
  obtain ⟨ss, hs, hsl, hs3⟩ := hF.sums
  have hlt : f.toNat < ss.length := by have := (List.getElem?_eq_some_iff.mp hP.2).1; omega
  obtain ⟨da, nfa, ha⟩ := hs3 f.toNat _ P (List.getElem?_eq_getElem hlt) hP.2
  have hsi : atI (ss.map V.ref) f = some (.ref (ss[f.toNat])) := atI_of (n := f.toNat) (by rw [List.getElem?_map, List.getElem?_eq_getElem hlt]; rfl) (by have := hP.1; omega)
  generalize ss[f.toNat] = sa at da nfa ha hsi
  refine z_fldR ob T.cFaces T.aFaces_sums lkFaces_sums ?_
  walk_at "z"
  refine z_ixL (SqL.of hs) hsi ?_
  refine ⟨sa, rfl, ⟨_, SqL.of ha⟩, fun L hL => ?_⟩
  refine lc_list (K := K) (a := sa) (xs := P.sums.map V.int) (fun i H' => Same H H' ∧ H' L = some (.lst (((P.sums.take i).map fun m => m * 4 ^ (d.toNat - P.depth)).map V.int))) ⟨Same.new hL, upd_same⟩ (fun i H' _ h => SqL.of (h.1 _ _ ha)) ?_ ?_
  · rintro i x H' hi ⟨s1, f1⟩
    obtain ⟨m, hm, rfl⟩ : ∃ m, P.sums[i]? = some m ∧ x = .int m := by
      rw [List.getElem?_map] at hi
      cases e : P.sums[i]? with
      | none => rw [e] at hi; cases hi
      | some m => rw [e] at hi; exact ⟨m, rfl, (Option.some.inj hi).symm⟩
    have hr := sums_rg m (List.mem_of_getElem? hm)
    have hi10 : i < 10 := by have := (List.getElem?_eq_some_iff.mp hm).1; simpa [Pic.sums] using this
    walk_at "zw"
    walk_at "z"
    refine ⟨rfl, ?_⟩
    walk_at "z"
    refine z_mulI (mulS (by omega) (by omega)) ?_
    refine ⟨_, f1, szlt (by simp; omega), s1.set hL, ?_⟩
    rw [upd_same, List.take_add_one, hm]
    simp
  · rintro H' ⟨s1, f1⟩
    walk_at "z"
    refine q2 H' L s1 hL ?_
    rw [f1, List.take_of_length_le (by rw [List.length_map]; exact Nat.le_refl _)]
    rfl
abbrev nShop_held_in : List Str := ["self", "number", "face", "thickness", "length", "many"]
abbrev pShop_held_in : List Str := ["self", "number"]
theorem scShop_held_in : FnScope nShop_held_in pShop_held_in (defScope sShop_held_in) := ⟨rfl, rfl, rfl, by decide +kernel, rfl, by decide +kernel, by decide +kernel⟩
theorem ok_Shop_held_in {P : Program} {w : World} {K : PySem.W.Frag} {mg : Str → Option Value} {base : Heap} (T : Tx w K mg) : Fk P w K mg base 4 (He.ma K (He.ga K "Shop") "held_in") pShop_held_in (spHeld K) := by
  have GShop_rod := ok_Shop_rod (P := P) (w := w) (base := base) T
  have GFaces_counts := ok_Faces_counts (P := P) (w := w) (base := base) T
  refine Fk.mk' T.fShop_held_in scShop_held_in (fun _ _ _ _ _ _ us hl => match us, hl with | [_, _], _ => rfl) (by
  intro vs H Q E h
  repeat (first | (obtain ⟨h1, _⟩ := h; subst h1; rfl) | (obtain ⟨_, h⟩ := h))) (fun cdv A outer s H vs Q E hr h => ?_)
  have hu := hu_of hr
  have hu64 := hr.units
  refine ⟨_, (pss_cons (ps_asg (q_meth (pv 0) T.cShop T.mShop_rod GShop_rod (hr.mono (by omega)) passX (pa_cons (pv 1) pa_nil)) (k_pgt (n := 3) K rfl (pgs_cons (pg_name (i := 2) scShop_held_in.nd rfl (Or.inl rfl)) (pgs_cons (pg_name (i := 3) scShop_held_in.nd rfl (Or.inl rfl)) (pgs_cons (pg_name (i := 4) scShop_held_in.nd rfl (Or.inr rfl)) pgs_nil)))))
  (pss_one (ps_ret (pe_lc (own := [("many", 5)]) (g := gName 5) rfl scShop_held_in.nd (k_pil K (q_meth (k_fld K (pv 0) rfl) T.cFaces T.mFaces_counts GFaces_counts (hr.mono (by omega)) passX (pa_cons (pv 2) (pa_cons (pv 3) pa_nil)))) (blkOk_by (own := [("many", 5)]) (N := nShop_held_in) (sc := defScope sShop_held_in) (by decide +kernel)) (fun _ _ _ _ _ => pg_name (i := 5) scShop_held_in.nd rfl (Or.inl rfl)) (fun _ _ _ _ _ => pts_nil) (fun _ _ _ _ _ => (pe_op op_mulU (pv 5) (pv 4))))))), ?_⟩
  try dsimp only [cxOf]
  obtain ⟨s0, p, A, D, ps, B, now, k, n, rfl, hF, hS, hst, hk, e, q⟩ := h
  walk_at "z"
  refine z_methR hS.ob noS_rod ?_
  walk_at "z"
  refine ⟨s0, p, B, now, n, rfl, hS, e, fun r a hf ha => ?_⟩
  obtain ⟨hn, hmem⟩ := findR_n hf
  have rok := (hst.rod r hmem).1
  obtain ⟨⟨P, hP, hd⟩, thin, long, cap, one⟩ := id rok
  have hd12 := ok_depth (hF.inv.ok P hP.mem)
  obtain ⟨dxf, obf⟩ := hF.ob
  refine z_gTup (SqT.of ha) rfl ?_
  walk_at "z"
  refine z_fldR hS.ob T.cShop T.aShop_faces lkS_faces ?_
  refine z_methR obf noFaces_counts ?_
  walk_at "z"
  refine ⟨p, A, D, ps, r.f, r.t, rfl, hF, fun no => absurd ⟨hP.1, hP.lt⟩ no, fun P2 hP2 => ?_⟩
  obtain rfl := hP2.inj hP
  refine ⟨fun no => absurd ⟨hd, by omega⟩ no, fun _ H1 l1 s1 n1 f1 => ?_⟩
  refine ⟨l1, rfl, ⟨_, SqL.of f1⟩, fun L hL => ?_⟩
  have eh : heldL ps r = (cntL P2 (r.t.toNat - P2.depth)).map fun c => c * r.l := by
    unfold heldL cntL
    rw [picF_of hP, List.map_map]
    rfl
  have hcl : (cntL P2 (r.t.toNat - P2.depth)).length = 10 := by simp [cntL, Pic.sums]
  refine lc_list (K := K) (a := l1) (xs := (cntL P2 (r.t.toNat - P2.depth)).map V.int) (fun i H' => Same H1 H' ∧ H' L = some (.lst ((((cntL P2 (r.t.toNat - P2.depth)).take i).map fun c => c * r.l).map V.int))) ⟨Same.new hL, upd_same⟩ (fun i H' _ h => SqL.of (h.1 _ _ f1)) ?_ ?_
  · rintro i y H' hi ⟨s2, f2⟩
    obtain ⟨c, hc, rfl⟩ : ∃ c, (cntL P2 (r.t.toNat - P2.depth))[i]? = some c ∧ y = .int c := by
      rw [List.getElem?_map] at hi
      cases e : (cntL P2 (r.t.toNat - P2.depth))[i]? with
      | none => rw [e] at hi; cases hi
      | some m => rw [e] at hi; exact ⟨m, rfl, (Option.some.inj hi).symm⟩
    have hi10 : i < 10 := by have := (List.getElem?_eq_some_iff.mp hc).1; omega
    have hb : c.natAbs < 2 ^ 30 := by
      have hm := List.mem_of_getElem? hc
      simp only [cntL, List.mem_map] at hm
      obtain ⟨m, hm, rfl⟩ := hm
      have hr := sums_rg m hm
      have h4 := pow4 (r.t.toNat - P2.depth)
      have e1 := Int.mul_le_mul_of_nonneg_right hr.2 (Int.le_of_lt h4)
      have e2 : (4 : Int) ^ P2.depth * 4 ^ (r.t.toNat - P2.depth) ≤ 4 ^ 12 := by
        rw [← pow4_add]
        exact pow4_le (by omega)
      have e3 : (4 : Int) ^ 12 = 16777216 := by decide
      have e4 := Int.mul_nonneg hr.1 (Int.le_of_lt h4)
      omega
    have hrl : r.l.natAbs < 2 ^ (60 + 30 * k) := by
      have h0 : ((r.l.natAbs : Nat) : Int) = r.l := Int.natAbs_of_nonneg (by omega)
      have h1 : ((r.l.natAbs : Nat) : Int) < ((2 ^ (60 + 30 * k) : Nat) : Int) := by rw [h0]; push_cast; exact cap
      exact Int.ofNat_lt.mp h1
    walk_at "zw"
    walk_at "z"
    refine ⟨rfl, ?_⟩
    walk_at "z"
    refine z_mulI (mulx_ok hb hrl (by omega)) ?_
    refine ⟨_, f2, szlt (by simp; omega), s2.set hL, ?_⟩
    rw [upd_same, List.take_add_one, hc]
    simp
  · rintro H' ⟨s2, f2⟩
    walk_at "z"
    rw [List.length_map, List.take_of_length_le (Nat.le_refl _), ← eh] at f2
    exact q r hf H' L (s1.trans s2) (s1.free hL) f2
abbrev nShop_kept : List Str := ["self", "row", "amounts"]
abbrev pShop_kept : List Str := ["self"]
theorem scShop_kept : FnScope nShop_kept pShop_kept (defScope sShop_kept) := ⟨rfl, rfl, rfl, by decide +kernel, rfl, by decide +kernel, by decide +kernel⟩
theorem ok_Shop_kept {P : Program} {w : World} {K : PySem.W.Frag} {mg : Str → Option Value} {base : Heap} (T : Tx w K mg) : Fk P w K mg base 1 (He.ma K (He.ga K "Shop") "kept") pShop_kept (spKept (He.ga K "Shop")) := by
  refine Fk.mk' T.fShop_kept scShop_kept (fun _ _ _ _ _ _ us hl => match us, hl with | [_], _ => rfl) (by
  intro vs H Q E h
  repeat (first | (obtain ⟨h1, _⟩ := h; subst h1; rfl) | (obtain ⟨_, h⟩ := h))) (fun cdv A outer s H vs Q E hr h => ?_)
  have hu := hu_of hr
  have hu64 := hr.units
  refine ⟨_, (pss_cons (ps_set (i := 2) scShop_kept.nd rfl (Or.inl rfl) (pe_callTy (k_tuple K) (by rfl) T.utuple (by decide +kernel) (pa_cons (pe_lc (own := [("row", 1)]) (g := gName 1) rfl scShop_kept.nd (k_pit K (k_fld K (pv 0) rfl)) (blkOk_by (own := [("row", 1)]) (N := nShop_kept) (sc := defScope sShop_kept) (by decide +kernel)) (fun _ _ _ _ _ => pg_name (i := 1) scShop_kept.nd rfl (Or.inl rfl)) (fun _ _ _ _ _ => pts_nil) (fun _ _ _ _ _ => (pe_callTy (k_list K) (by rfl) T.ulist (by decide +kernel) (pa_cons (pv 1) pa_nil)))) pa_nil)))
  (pss_one (ps_ret (pe_tup (pa_cons (pe_callTy call_dictD (by rfl) T.udict (by decide +kernel) (pa_cons (k_fld K (pv 0) rfl) pa_nil)) (pa_cons (k_fld K (pv 0) rfl) (pa_cons (pv 2) (pa_cons (pe_callTy (k_list K) (by rfl) T.ulist (by decide +kernel) (pa_cons (k_fld K (pv 0) rfl) pa_nil)) (pa_cons (pe_callTy (k_list K) (by rfl) T.ulist (by decide +kernel) (pa_cons (k_fld K (pv 0) rfl) pa_nil)) pa_nil))))))))), ?_⟩
  try dsimp only [cxOf]
  obtain ⟨s0, p, B, now, past, ahead, rfl, hS, q⟩ := h
  obtain ⟨⟨kvs, hk, hr⟩, ham, h0, h1, h2, hb, ⟨vs, hd, hdd⟩⟩ := id hS.cur
  walk_at "z"
  refine z_fldR hS.ob T.cShop T.aShop_amounts lkS_amounts ?_
  refine ⟨_, rfl, ⟨_, SqT.of ham⟩, fun L hL => ?_⟩
  have hget : ∀ (i : Nat) (x : V), ([V.ref B.q.l0, V.ref B.q.l1, V.ref B.q.l2] : List V)[i]? = some x → ∃ a l, x = .ref a ∧ H a = some (.lst (l : List V)) ∧ ([now.a0.map V.int, now.a1.map V.int, now.a2.map V.int] : List (List V))[i]? = some l := by
    intro i x e
    match i, e with
    | 0, e => exact ⟨_, _, (Option.some.inj e).symm, h0, rfl⟩
    | 1, e => exact ⟨_, _, (Option.some.inj e).symm, h1, rfl⟩
    | 2, e => exact ⟨_, _, (Option.some.inj e).symm, h2, rfl⟩
    | i + 3, e => simp at e
  refine lc_tup (K := K) (a := B.q.am) (xs := [V.ref B.q.l0, V.ref B.q.l1, V.ref B.q.l2]) (fun i H' => Same H H' ∧ ∃ ns : List Addr, H' L = some (.lst (ns.map V.ref)) ∧ ns.length = i ∧ ns.Nodup ∧ L ∉ ns ∧ (∀ a ∈ ns, H a = none) ∧ ∀ (j : Nat) (a : Addr) (l : List V), ns[j]? = some a → ([now.a0.map V.int, now.a1.map V.int, now.a2.map V.int] : List (List V))[j]? = some l → H' a = some (.lst l))
    ⟨Same.new hL, [], upd_same, rfl, by simp, by simp, by simp, fun j a l e => by simp at e⟩ (fun i H' _ h => SqT.of (h.1 _ _ ham)) ?_ ?_
  · rintro i x H' hi ⟨s1, ns, f1, hn, nd, nL, fr, hal⟩
    obtain ⟨a, l, rfl, ha, hl⟩ := hget i x hi
    have hi3 : i < 3 := by have := (List.getElem?_eq_some_iff.mp hi).1; simpa using this
    walk_at "zw"
    walk_at "z"
    refine ⟨rfl, ?_⟩
    walk_at "z"
    refine z_listL (SqL.of (s1 _ _ ha)) ?_
    intro n hnn
    have n0 : H n = none := s1.free hnn
    have nLn : n ≠ L := fun z => by rw [z, f1] at hnn; cases hnn
    have nin : n ∉ ns := fun z => by
      obtain ⟨j, hj⟩ := List.mem_iff_getElem?.mp z
      have hj3 : j < 3 := by have := (List.getElem?_eq_some_iff.mp hj).1; omega
      have := hal j n _ hj (List.getElem?_eq_getElem (by simpa using hj3))
      rw [this] at hnn; cases hnn
    have f2 : (upd H' n (.lst l)) L = some (.lst (ns.map V.ref)) := by rw [upd_ne nLn.symm]; exact f1
    refine ⟨_, f2, szlt (by simp; omega), (s1.trans (Same.new hnn)).set hL, ns ++ [n], by rw [upd_same, List.map_append]; rfl, by simp [hn], ?_, ?_, ?_, ?_⟩
    · rw [List.nodup_append]
      exact ⟨nd, by simp, fun a ha b hb e => by simp at hb; exact nin (by rw [← hb, ← e]; exact ha)⟩
    · simp only [List.mem_append, List.mem_singleton, not_or]
      exact ⟨nL, nLn.symm⟩
    · intro a ha
      rcases List.mem_append.mp ha with z | z
      · exact fr a z
      · simp at z; rw [z]; exact n0
    · intro j a l' ej el
      have aL : a ≠ L := fun z => by
        have := List.mem_of_getElem? ej
        rcases List.mem_append.mp this with y | y
        · exact nL (z ▸ y)
        · simp at y; exact nLn (by rw [← y, z])
      rw [upd_ne aL]
      by_cases hj : j < ns.length
      · rw [List.getElem?_append_left hj] at ej
        have an : a ≠ n := fun z => nin (z ▸ List.mem_of_getElem? ej)
        rw [upd_ne an]
        exact hal j a l' ej el
      · have hj2 : j = i := by
          have := (List.getElem?_eq_some_iff.mp ej).1
          simp at this; omega
        subst hj2
        rw [List.getElem?_append_right (by omega), hn, Nat.sub_self] at ej
        obtain rfl : n = a := by simpa using ej
        rw [hl] at el
        rw [upd_same, Option.some.inj el]
  · rintro H1 ⟨s1, ns, f1, hn, nd, nL, fr, hal⟩
    obtain ⟨n0, n1, n2, rfl⟩ : ∃ a b c, ns = [a, b, c] := by
      match ns, hn with
      | [a, b, c], _ => exact ⟨a, b, c, rfl⟩
    have g0 := hal 0 n0 _ rfl rfl
    have g1 := hal 1 n1 _ rfl rfl
    have g2 := hal 2 n2 _ rfl rfl
    walk_at "z"
    refine z_tupL (SqL.of f1) ?_
    walk_at "zn"
    rename_i am nam H2 s2 f2
    have s02 := s1.trans s2
    walk_at "z"
    refine z_fldR (s02 _ _ hS.ob) T.cShop T.aShop_standing lkS_standing ?_
    walk_at "z"
    refine ⟨_, kvs, rfl, .inl (s02 _ _ hk), ?_⟩
    walk_at "zn"
    rename_i d nd3 H3 s3 f3
    have s03 := s02.trans s3
    walk_at "z"
    refine z_fldR (s03 _ _ hS.ob) T.cShop T.aShop_coming lkS_coming ?_
    walk_at "z"
    refine z_fldR (s03 _ _ hS.ob) T.cShop T.aShop_bundles lkS_bundles ?_
    walk_at "z"
    refine z_listL (SqL.of (s03 _ _ hb)) ?_
    walk_at "zn"
    rename_i b nb H4 s4 f4
    have s04 := s03.trans s4
    walk_at "z"
    refine z_fldR (s04 _ _ hS.ob) T.cShop T.aShop_deeds_done lkS_deeds_done ?_
    walk_at "z"
    refine z_listL (SqL.of (s04 _ _ hd)) ?_
    walk_at "zn"
    rename_i dd nddd H5 s5 f5
    have s05 := s04.trans s5
    walk_at "z"
    walk_at "zt"
    rename_i t nt H6 s6 f6
    have s06 := s05.trans s6
    have s26 : Same H2 H6 := s3.trans (s4.trans (s5.trans s6))
    have s16 : Same H1 H6 := s2.trans s26
    have kt : ∀ a xs, H a = some (.tup xs) → H6 a = some (.tup xs) := fun a xs e => s06 _ _ e
    have fd : H d = none := s02.free nd3
    have fb : H b = none := s03.free nb
    have fdd : H dd = none := s04.free nddd
    refine q H6 t ⟨d, am, n0, n1, n2, b, dd⟩ s06 f6 ⟨⟨kvs, (s4.trans (s5.trans s6)) _ _ f3, hr.stay kt⟩, s26 _ _ f2, s16 _ _ g0, s16 _ _ g1, s16 _ _ g2, (s5.trans s6) _ _ f4, ⟨vs, s6 _ _ f5, dvAll_stay kt (deeds_flat _) hdd⟩⟩ ?_ ?_ (s05.free nt)
    · have o0 := s2 _ _ g0
      have o1 := s2 _ _ g1
      have o2 := s2 _ _ g2
      have i0 := s3 _ _ o0
      have i1 := s3 _ _ o1
      have i2 := s3 _ _ o2
      have j0 := s4 _ _ i0
      have j1 := s4 _ _ i1
      have j2 := s4 _ _ i2
      have dn : ∀ (x y : Addr) (o : HO) (G : Hp), G x = some o → G y = none → y ≠ x := fun x y o G e n z => by rw [z, e] at n; cases n
      have hnd := nd
      simp only [List.nodup_cons, List.mem_cons, List.not_mem_nil, or_false, not_or, not_false_eq_true, List.nodup_nil, and_true] at hnd
      obtain ⟨⟨x1, x2⟩, x3⟩ := hnd
      simp only [SP.muts, List.nodup_cons, List.mem_cons, List.not_mem_nil, or_false, not_or, not_false_eq_true, List.nodup_nil, and_true]
      exact ⟨⟨dn _ _ _ _ o0 nd3, dn _ _ _ _ o1 nd3, dn _ _ _ _ o2 nd3, (dn _ _ _ _ f3 nb).symm, (dn _ _ _ _ (s4 _ _ f3) nddd).symm⟩, ⟨x1, x2, (dn _ _ _ _ i0 nb).symm, (dn _ _ _ _ j0 nddd).symm⟩, ⟨x3, (dn _ _ _ _ i1 nb).symm, (dn _ _ _ _ j1 nddd).symm⟩, ⟨(dn _ _ _ _ i2 nb).symm, (dn _ _ _ _ j2 nddd).symm⟩, (dn _ _ _ _ f4 nddd).symm⟩
    · intro a ha
      simp only [SP.muts, List.mem_cons, List.not_mem_nil, or_false] at ha
      rcases ha with rfl | rfl | rfl | rfl | rfl | rfl
      · exact fd
      · exact fr _ (by simp)
      · exact fr _ (by simp)
      · exact fr _ (by simp)
      · exact fb
      · exact fdd
abbrev nShop_began : List Str := ["self", "deed"]
abbrev pShop_began : List Str := ["self", "deed"]
theorem scShop_began : FnScope nShop_began pShop_began (defScope sShop_began) := ⟨rfl, rfl, rfl, by decide +kernel, rfl, by decide +kernel, by decide +kernel⟩
theorem ok_Shop_began {P : Program} {w : World} {K : PySem.W.Frag} {mg : Str → Option Value} {base : Heap} (T : Tx w K mg) : Fk P w K mg base 2 (He.ma K (He.ga K "Shop") "began") pShop_began (spBegan (He.ga K "Shop")) := by
  have GShop_kept := ok_Shop_kept (P := P) (w := w) (base := base) T
  refine Fk.mk' T.fShop_began scShop_began (fun _ _ _ _ _ _ us hl => match us, hl with | [_, _], _ => rfl) (by
  intro vs H Q E h
  repeat (first | (obtain ⟨h1, _⟩ := h; subst h1; rfl) | (obtain ⟨_, h⟩ := h))) (fun cdv A outer s H vs Q E hr h => ?_)
  have hu := hu_of hr
  have hu64 := hr.units
  refine ⟨_, (pss_cons (ps_expr (k_bm K PySem.F.plainAttrs_list PySem.F.slot_list_append PySem.F.type_list_append mt_append (k_fld K (pv 0) rfl) (pa_cons (q_meth0 (pv 0) T.cShop T.mShop_kept GShop_kept (hr.mono (by omega)) passX) pa_nil)))
  (pss_cons (k_sfld K (pv 0) (pe_lst pa_nil) rfl)
  (pss_one (ps_expr (k_bm K PySem.F.plainAttrs_list PySem.F.slot_list_append PySem.F.type_list_append mt_append (k_fld K (pv 0) rfl) (pa_cons (pv 1) pa_nil)))))), ?_⟩
  try dsimp only [cxOf]
  obtain ⟨s0, p, B, now, past, ahead, dt, dd, rfl, hS, hdt, hpl, hdl, q⟩ := h
  have kl := hS.kb.len
  walk_at "z"
  refine z_fldR hS.ob T.cShop T.aShop_behind lkS_behind ?_
  refine z_tyL (SqL.of hS.hb) ?_
  walk_at "z"
  refine z_methR hS.ob noS_kept ?_
  walk_at "z"
  refine ⟨s0, p, B, now, past, ahead, rfl, hS, fun H1 t q1 s1 ht hs1 nd1 fr1 nt => ?_⟩
  have hS1 := hS.same s1
  have out : ∀ a ∈ q1.muts, a ∉ B.muts s0 := fun a ha z => by
    obtain ⟨o, e, _⟩ := hS.there a z
    rw [fr1 a ha] at e; cases e
  walk_at "z"
  refine z_app hS1.hb (by rw [kl.1]; exact szlt (by omega)) ?_
  have hS2 := hS1.pushB ht hs1 nd1 out
  have kp2 : Keep (fun b => b ∈ B.muts s0) H (upd H1 B.lb (.lst (B.vs ++ [.ref t]))) := s1.keep.set (by simp [SB.muts])
  have hdt2 : (upd H1 B.lb (.lst (B.vs ++ [.ref t]))) dt = some (.tup dd.vals) := tup_stay hS1.hb (fun _ z => by cases z) _ _ (s1 _ _ hdt)
  have m2 : ∀ b ∈ SB.muts s0 { B with qs := B.qs ++ [q1], vs := B.vs ++ [.ref t] }, b ∈ B.muts s0 ∨ H b = none := fun b hb => by
    simp only [SB.muts, List.mem_cons, List.mem_append, List.flatMap_append, List.flatMap_cons, List.flatMap_nil, List.append_nil] at hb ⊢
    rcases hb with z | z | z | z | (z | z) | z
    · exact .inl (.inl z)
    · exact .inl (.inr (.inl z))
    · exact .inl (.inr (.inr (.inl z)))
    · exact .inl (.inr (.inr (.inr (.inl z))))
    · exact .inl (.inr (.inr (.inr (.inr (.inl z)))))
    · exact .inr (fr1 b z)
    · exact .inl (.inr (.inr (.inr (.inr (.inr z)))))
  have lv2 : Live H (upd H1 B.lb (.lst (B.vs ++ [.ref t]))) := s1.live.set
  generalize hBB : ({ B with qs := B.qs ++ [q1], vs := B.vs ++ [.ref t] } : SB) = B2 at hS2 m2
  have elb : B2.lb = B.lb := by rw [← hBB]
  generalize upd H1 B.lb _ = H2 at hS2 kp2 hdt2 lv2 ⊢
  have f12 : ∀ {b : Addr}, H2 b = none → H b = none := fun {b} z => lv2 b z
  walk_at "z"
  refine ⟨sz1000 (by simp), fun la hla => ?_⟩
  have hS3 := hS2.same (Same.new (o := .lst []) hla)
  have fla : (upd H2 la (.lst [])) la = some (.lst []) := upd_same
  have nla : la ∉ B2.muts s0 := fun z => by
    obtain ⟨o2, e2, _⟩ := hS2.there la z
    rw [hla] at e2; cases e2
  have kp3 := kp2.trans (Same.new (o := .lst []) hla).keep
  have hdt3 := Same.new (o := .lst []) hla _ _ hdt2
  have lv3 := lv2.set (a := la) (o := .lst [])
  generalize upd H2 la (.lst []) = H3 at hS3 fla kp3 hdt3 lv3 ⊢
  walk_at "z"
  refine z_sfldR hS3.ob T.cShop T.aShop_ahead (by simp) ptS_ahead ?_
  have hS4 := hS3.clearA fla nla
  have hdt4 := tup_stay (o := (HO.ins (He.ga K "Shop") B2.dx (fsShop (.ref p) (.ref B2.q.d) (.int now.com) (.ref B2.q.am) (.ref B2.q.b) (.ref B2.q.dd) (.ref B2.lb) (.ref la)))) hS3.ob (fun _ z => by cases z) _ _ hdt3
  have kp4 := kp3.set (a := s0) (o := (HO.ins (He.ga K "Shop") B2.dx (fsShop (.ref p) (.ref B2.q.d) (.int now.com) (.ref B2.q.am) (.ref B2.q.b) (.ref B2.q.dd) (.ref B2.lb) (.ref la)))) (by simp [SB.muts])
  have lv4 := lv3.set (a := s0) (o := (HO.ins (He.ga K "Shop") B2.dx (fsShop (.ref p) (.ref B2.q.d) (.int now.com) (.ref B2.q.am) (.ref B2.q.b) (.ref B2.q.dd) (.ref B2.lb) (.ref la))))
  generalize upd H3 s0 _ = H4 at hS4 hdt4 kp4 lv4 ⊢
  obtain ⟨_, _, _, _, _, _, ⟨vs4, hd4, hdd4⟩⟩ := id hS4.cur
  have hvl : vs4.length = now.deeds.length := by rw [hdd4.len, List.length_map]
  walk_at "z"
  refine z_fldR hS4.ob T.cShop T.aShop_deeds_done lkS_deeds_done ?_
  refine z_tyL (SqL.of hd4) ?_
  walk_at "z"
  refine z_app hd4 (by rw [hvl]; exact szlt (by omega)) ?_
  have hS5 := hS4.setDeeds (vs := vs4 ++ [.ref dt]) (ds := now.deeds ++ [dd]) (by rw [List.map_append]; exact DvAll.snoc (deed_dv hdt4) hdd4)
  have eq2 : B2.q = B.q := by rw [← hBB]
  refine q _ _ hS5 (kp4.set (by rw [eq2]; simp [SB.muts, SP.muts])) lv4.set fun b hb => ?_
  simp only [SB.muts, List.mem_cons, List.mem_append, List.flatMap_nil, List.not_mem_nil, or_false] at hb
  rcases hb with z | z | z | z | z
  · exact m2 b (by simp [SB.muts, z])
  · exact m2 b (by simp [SB.muts, z])
  · exact .inr (f12 (by rw [z]; exact hla))
  · exact m2 b (by simp only [SB.muts, List.mem_cons, List.mem_append]; exact .inr (.inr (.inr (.inl z))))
  · exact m2 b (by simp only [SB.muts, List.mem_cons, List.mem_append]; exact .inr (.inr (.inr (.inr (.inl z)))))
abbrev nShop_gone : List Str := ["self", "rod", "word", "which", "held", "colour"]
abbrev pShop_gone : List Str := ["self", "rod", "word", "which"]
theorem scShop_gone : FnScope nShop_gone pShop_gone (defScope sShop_gone) := ⟨rfl, rfl, rfl, by decide +kernel, rfl, by decide +kernel, by decide +kernel⟩
theorem ok_Shop_gone {P : Program} {w : World} {K : PySem.W.Frag} {mg : Str → Option Value} {base : Heap} (T : Tx w K mg) : Fk P w K mg base 5 (He.ma K (He.ga K "Shop") "gone") pShop_gone (spGone K) := by
  have GShop_held_in := ok_Shop_held_in (P := P) (w := w) (base := base) T
  have GShop_began := ok_Shop_began (P := P) (w := w) (base := base) T
  refine Fk.mk' T.fShop_gone scShop_gone (fun _ _ _ _ _ _ us hl => match us, hl with | [_, _, _, _], _ => rfl) (fun vs H Q E h => gone_len h) (fun cdv A outer s H vs Q E hr h => ?_)
  have hu := hu_of hr
  have hu64 := hr.units
  refine ⟨_, (pss_cons (ps_set (i := 4) scShop_gone.nd rfl (Or.inl rfl) (q_meth (pv 0) T.cShop T.mShop_held_in GShop_held_in (hr.mono (by omega)) passX (pa_cons (pv 1) pa_nil)))
  (pss_cons (ps_expr (q_meth (pv 0) T.cShop T.mShop_began GShop_began (hr.mono (by omega)) passX (pa_cons (pe_tup (pa_cons (pv 2) (pa_cons (pv 1) pa_nil))) pa_nil)))
  (pss_cons (ps_for (passes_of rfl) rfl (pi_range1 (by rfl) T.urange (pa_cons pe_int pa_nil)) (pg_name (i := 5) scShop_gone.nd rfl (Or.inl rfl)) (pss_one (ps_augS (k_ix K (k_fld K (pv 0) rfl) (pv 3) (fun _ _ => rfl)) (pv 5) (k_get K) (k_ix K (pv 4) (pv 5) (fun _ _ => rfl)) ip_add set_list)))
  (pss_one (ps_expr (pe_dpop1 (k_fld K (pv 0) rfl) (pv 1) ⟨rfl, rfl, rfl, rfl⟩)))))), ?_⟩
  try dsimp only [cxOf]
  obtain ⟨x, n, dd, hv, h, hk, q⟩ := h
  have hst := h.ok _ (.inl rfl)
  have hdl := hst.dl
  have hpl := h.pl
  have hno : findR x.now.rods n = none → refuse x.ps x.now dd = some ("NoRod" : Str) := fun no => by
    rcases hv with ⟨_, rfl⟩ | ⟨_, rfl⟩ <;> (unfold refuse; simp only; rw [no])
  rcases hv with ⟨rfl, rfl⟩ | ⟨rfl, rfl⟩
  all_goals
    walk_at "z"
    refine z_methR h.S.ob noS_held_in ?_
    walk_at "z"
    refine ⟨x.s, x.p, x.A, x.D, x.ps, x.B, x.now, x.k, n, rfl, h.F, h.S.rd, hst, h.kl, fun no => q.1 "NoRod" (hno no) H (Same.refl H), fun r hf H0 l0 s0 n0 fl => ?_⟩
    have h0 := h.same s0
    have q0 := q.same s0
    have nl0 : l0 ∉ x.B.muts x.s := fun z => by
      obtain ⟨o, e, _⟩ := h.S.there _ z
      rw [n0] at e; cases e
  · have hr : refuse x.ps x.now (.sell n) = none := by unfold refuse; simp only; rw [hf]
    walk_at "z"
    refine z_methR h0.S.ob noS_began ?_
    walk_at "z"
    walk_at "zt"
    rename_i dt ndt H1 s1 f1
    have h1 := h0.same s1
    walk_at "z"
    refine ⟨x.s, x.p, x.B, x.now, x.past, x.ahead, dt, .sell n, rfl, h1.S, f1, by omega, by omega, fun H2 B2 hS2 kp2 lv2 m2 => ?_⟩
    have m2' : ∀ b ∈ B2.muts x.s, b ∈ x.B.muts x.s ∨ H0 b = none := fun b hb => (m2 b hb).imp id s1.free
    have kpH : Keep (fun b => b ∈ x.B.muts x.s) H0 H2 := s1.keep.trans kp2
    have lvH : Live H0 H2 := s1.live.trans lv2
    have fl2 : H2 l0 = some (.lst ((heldL x.ps r).map V.int)) := kpH _ _ fl nl0
    have nl2 : l0 ∉ B2.muts x.s := fun z => (m2' l0 z).elim nl0 fun y => by rw [fl] at y; cases y
    walk_at "z"
    refine ⟨_, rfl, by decide, by decide, ?_⟩
    refine for_range (lo := 0) (n := 10) (fun i σ H' => ShopAt (He.ga K "Shop") H' x.s x.p B2 { { x.now with deeds := x.now.deeds ++ [Deed.sell n] } with a1 := addTo x.now.a1 (heldL x.ps r) i } (x.past ++ [x.now]) [] ∧ Keep (fun b => b ∈ x.B.muts x.s) H0 H' ∧ Live H0 H' ∧ H' l0 = some (.lst ((heldL x.ps r).map V.int)) ∧
        ∃ y5, σ = [some (.ref x.s), some (.int n), some (.str "sell"), some (.int 1), some (.ref l0), y5])
      ⟨by rw [addTo_zero]; exact hS2, kpH, lvH, fl2, _, rfl⟩ ?_ ?_
    · rintro i σ H' hi ⟨hS, kp, lv, fli, y5, rfl⟩
      have e0 : (0 : Int) + (i : Nat) = (i : Nat) := Int.zero_add _
      have hi10 : i < x.now.a1.length := by rw [hst.a1.ten]; omega
      have hih : i < (heldL x.ps r).length := by rw [held_len]; omega
      have hl1 := hS.cur.l1
      rw [e0]
      walk_at "z"
      refine z_fldR hS.ob T.cShop T.aShop_amounts lkS_amounts ?_
      walk_at "z"
      refine z_ixT (SqT.of hS.cur.am) (atI_of (n := 1) rfl rfl) ?_
      walk_at "z"
      refine z_getL (n := i) (SqL.of hl1) rfl (v := .int (x.now.a1.getD i 0)) (by rw [List.getElem?_map, addTo_at hi10]; rfl) ?_
      walk_at "z"
      refine z_ixL (SqL.of fli) (atI_of (n := i) (v := .int ((heldL x.ps r).getD i 0)) (by rw [List.getElem?_map, List.getD_eq_getElem?_getD, List.getElem?_eq_getElem hih]; rfl) rfl) ?_
      walk_at "z"
      refine z_setL (n := i) hl1 rfl (by rw [List.length_map, addTo_len]; exact hi10) ?_
      have hS3 := hS.setA1 (l := addTo x.now.a1 (heldL x.ps r) (i + 1))
      have e3 : ((addTo x.now.a1 (heldL x.ps r) i).map V.int).set i (.int (x.now.a1.getD i 0 + (heldL x.ps r).getD i 0)) = (addTo x.now.a1 (heldL x.ps r) (i + 1)).map V.int := by
        rw [← addTo_step hi10, List.map_set]
      rw [e3]
      exact ⟨hS3, kp.setM (m2' _ (by simp [SB.muts, SP.muts])), lv.set, by rw [upd_ne (fun z => nl2 (by rw [z]; simp [SB.muts, SP.muts]))]; exact fli, _, rfl⟩
    · rintro σ H' ⟨hS, kp, lv, fli, y5, rfl⟩
      rw [addTo_end hst.a1.ten (held_len _ _)] at hS
      obtain ⟨kvs, hkv, hrs⟩ := hS.cur.d
      walk_at "z"
      refine z_fldR hS.ob T.cShop T.aShop_standing lkS_standing ?_
      refine ⟨B2.q.d, rfl, .inl ⟨kvs, .inl hkv⟩, ?_⟩
      walk_at "z"
      rcases hrs.find n with ⟨r3, a3, g1, g2, g3, g4⟩ | ⟨g1, g2⟩
      · refine ⟨kvs, .inl n, .ref a3, hkv, rfl, g2, ?_⟩
        have hS3 := hS.setRods (hrs.drop n)
        have e : eff x.ps x.now (.sell n) = { x.now with deeds := x.now.deeds ++ [.sell n], a1 := addL x.now.a1 (heldL x.ps r), rods := dropR x.now.rods n } := by
          simp only [eff, findR_some hf]
        exact q0.fin0 h0 hk hr (B' := B2) trivial (by rw [e]; exact hS3) (kp.setM (m2' _ (by simp [SB.muts, SP.muts]))) lv.set m2'
      · exact absurd (show findR x.now.rods n = none from g1) (by rw [hf]; intro z; cases z)
  · have hr : refuse x.ps x.now (.waste n) = none := by unfold refuse; simp only; rw [hf]
    walk_at "z"
    refine z_methR h0.S.ob noS_began ?_
    walk_at "z"
    walk_at "zt"
    rename_i dt ndt H1 s1 f1
    have h1 := h0.same s1
    walk_at "z"
    refine ⟨x.s, x.p, x.B, x.now, x.past, x.ahead, dt, .waste n, rfl, h1.S, f1, by omega, by omega, fun H2 B2 hS2 kp2 lv2 m2 => ?_⟩
    have m2' : ∀ b ∈ B2.muts x.s, b ∈ x.B.muts x.s ∨ H0 b = none := fun b hb => (m2 b hb).imp id s1.free
    have kpH : Keep (fun b => b ∈ x.B.muts x.s) H0 H2 := s1.keep.trans kp2
    have lvH : Live H0 H2 := s1.live.trans lv2
    have fl2 : H2 l0 = some (.lst ((heldL x.ps r).map V.int)) := kpH _ _ fl nl0
    have nl2 : l0 ∉ B2.muts x.s := fun z => (m2' l0 z).elim nl0 fun y => by rw [fl] at y; cases y
    walk_at "z"
    refine ⟨_, rfl, by decide, by decide, ?_⟩
    refine for_range (lo := 0) (n := 10) (fun i σ H' => ShopAt (He.ga K "Shop") H' x.s x.p B2 { { x.now with deeds := x.now.deeds ++ [Deed.waste n] } with a2 := addTo x.now.a2 (heldL x.ps r) i } (x.past ++ [x.now]) [] ∧ Keep (fun b => b ∈ x.B.muts x.s) H0 H' ∧ Live H0 H' ∧ H' l0 = some (.lst ((heldL x.ps r).map V.int)) ∧
        ∃ y5, σ = [some (.ref x.s), some (.int n), some (.str "waste"), some (.int 2), some (.ref l0), y5])
      ⟨by rw [addTo_zero]; exact hS2, kpH, lvH, fl2, _, rfl⟩ ?_ ?_
    · rintro i σ H' hi ⟨hS, kp, lv, fli, y5, rfl⟩
      have e0 : (0 : Int) + (i : Nat) = (i : Nat) := Int.zero_add _
      have hi10 : i < x.now.a2.length := by rw [hst.a2.ten]; omega
      have hih : i < (heldL x.ps r).length := by rw [held_len]; omega
      have hl1 := hS.cur.l2
      rw [e0]
      walk_at "z"
      refine z_fldR hS.ob T.cShop T.aShop_amounts lkS_amounts ?_
      walk_at "z"
      refine z_ixT (SqT.of hS.cur.am) (atI_of (n := 2) rfl rfl) ?_
      walk_at "z"
      refine z_getL (n := i) (SqL.of hl1) rfl (v := .int (x.now.a2.getD i 0)) (by rw [List.getElem?_map, addTo_at hi10]; rfl) ?_
      walk_at "z"
      refine z_ixL (SqL.of fli) (atI_of (n := i) (v := .int ((heldL x.ps r).getD i 0)) (by rw [List.getElem?_map, List.getD_eq_getElem?_getD, List.getElem?_eq_getElem hih]; rfl) rfl) ?_
      walk_at "z"
      refine z_setL (n := i) hl1 rfl (by rw [List.length_map, addTo_len]; exact hi10) ?_
      have hS3 := hS.setA2 (l := addTo x.now.a2 (heldL x.ps r) (i + 1))
      have e3 : ((addTo x.now.a2 (heldL x.ps r) i).map V.int).set i (.int (x.now.a2.getD i 0 + (heldL x.ps r).getD i 0)) = (addTo x.now.a2 (heldL x.ps r) (i + 1)).map V.int := by
        rw [← addTo_step hi10, List.map_set]
      rw [e3]
      exact ⟨hS3, kp.setM (m2' _ (by simp [SB.muts, SP.muts])), lv.set, by rw [upd_ne (fun z => nl2 (by rw [z]; simp [SB.muts, SP.muts]))]; exact fli, _, rfl⟩
    · rintro σ H' ⟨hS, kp, lv, fli, y5, rfl⟩
      rw [addTo_end hst.a2.ten (held_len _ _)] at hS
      obtain ⟨kvs, hkv, hrs⟩ := hS.cur.d
      walk_at "z"
      refine z_fldR hS.ob T.cShop T.aShop_standing lkS_standing ?_
      refine ⟨B2.q.d, rfl, .inl ⟨kvs, .inl hkv⟩, ?_⟩
      walk_at "z"
      rcases hrs.find n with ⟨r3, a3, g1, g2, g3, g4⟩ | ⟨g1, g2⟩
      · refine ⟨kvs, .inl n, .ref a3, hkv, rfl, g2, ?_⟩
        have hS3 := hS.setRods (hrs.drop n)
        have e : eff x.ps x.now (.waste n) = { x.now with deeds := x.now.deeds ++ [.waste n], a2 := addL x.now.a2 (heldL x.ps r), rods := dropR x.now.rods n } := by
          simp only [eff, findR_some hf]
        exact q0.fin0 h0 hk hr (B' := B2) trivial (by rw [e]; exact hS3) (kp.setM (m2' _ (by simp [SB.muts, SP.muts]))) lv.set m2'
      · exact absurd (show findR x.now.rods n = none from g1) (by rw [hf]; intro z; cases z)

abbrev nShop_waste : List Str := ["self", "rod"]
abbrev pShop_waste : List Str := ["self", "rod"]
theorem scShop_waste : FnScope nShop_waste pShop_waste (defScope sShop_waste) := ⟨rfl, rfl, rfl, by decide +kernel, rfl, by decide +kernel, by decide +kernel⟩
theorem ok_Shop_waste {P : Program} {w : World} {K : PySem.W.Frag} {mg : Str → Option Value} {base : Heap} (T : Tx w K mg) : Fk P w K mg base 6 (He.ma K (He.ga K "Shop") "waste") pShop_waste (spDeed K 1 mkWaste) := by
  have GShop_gone := ok_Shop_gone (P := P) (w := w) (base := base) T
  refine Fk.mk' T.fShop_waste scShop_waste (fun _ _ _ _ _ _ us hl => match us, hl with | [_, _], _ => rfl) (fun vs H Q E h => spDeed_len h) (fun cdv A outer s H vs Q E hr h => ?_)
  have hu := hu_of hr
  have hu64 := hr.units
  refine ⟨_, (pss_one (ps_expr (q_meth (pv 0) T.cShop T.mShop_gone GShop_gone (hr.mono (by omega)) passX (pa_cons (pv 1) (pa_cons pe_str (pa_cons pe_int pa_nil)))))), ?_⟩
  try dsimp only [cxOf]
  obtain ⟨x, l0, dd, rfl, hl0, hmk, h, hk, q⟩ := h
  obtain ⟨n, rfl⟩ := one1 hl0
  obtain rfl := Option.some.inj hmk
  walk_at "z"
  refine z_methR h.S.ob noS_gone ?_
  walk_at "z"
  exact ⟨x, n, _, .inr ⟨rfl, rfl⟩, h, hk, ⟨q.1, fun e H' y a b c d f g i => q.2 e H' y a b c d f g i⟩⟩
abbrev nis_deed : List Str := ["deed", "part"]
abbrev pis_deed : List Str := ["deed"]
theorem scis_deed : FnScope nis_deed pis_deed (defScope sis_deed) := ⟨rfl, rfl, rfl, by decide +kernel, rfl, by decide +kernel, by decide +kernel⟩
theorem ok_is_deed {P : Program} {w : World} {K : PySem.W.Frag} {mg : Str → Option Value} {base : Heap} (T : Tx w K mg) : Fk P w K mg base 1 (He.ga K "is_deed") pis_deed (spIsDeed) := by
  refine Fk.mk' T.fis_deed scis_deed (fun _ _ _ _ _ _ us hl => match us, hl with | [_], _ => rfl) (by
  intro vs H Q E h
  repeat (first | (obtain ⟨h1, _⟩ := h; subst h1; rfl) | (obtain ⟨_, h⟩ := h))) (fun cdv A outer s H vs Q E hr h => ?_)
  have hu := hu_of hr
  have hu64 := hr.units
  refine ⟨_, (pss_cons (ps_if (PW.pt (pw_or (pt_cmpR (k_eq K hu64) (pe_callB (k_len K) (by rfl) T.ulen (by decide +kernel) (pa_cons (pv 0) pa_nil)) pe_int (nomark _)) (pw_or1 (pt_not (pt_val (pe_callB (k_isi K) (by rfl) T.uisinstance (by decide +kernel) (pa_cons (k_ix K (pv 0) pe_int (fun _ _ => rfl)) (pa_cons (pe_bltn (v := .ty "str") (by rfl) T.ustr (by decide +kernel) rfl) pa_nil)))))))) (pss_one (ps_ret pe_bl)) pss_nil)
  (pss_cons (ps_if (pt_cmpR (k_ne K hu64) (pe_kget1 K w (pe_glob (v := .ref (He.ga K "SHAPES")) (by rfl) T.gSHAPES rfl) (k_ix K (pv 0) pe_int (fun _ _ => rfl)) ⟨rfl, rfl, rfl, rfl⟩) (pe_op op_sub (pe_callB (k_len K) (by rfl) T.ulen (by decide +kernel) (pa_cons (pv 0) pa_nil)) pe_int) (nomark _)) (pss_one (ps_ret pe_bl)) pss_nil)
  (pss_cons (ps_for (passes_of rfl) rfl (k_pit K (pe_slice (k_slt K) (pv 0) (po_some pe_int) po_none)) (pg_name (i := 1) scis_deed.nd rfl (Or.inl rfl)) (pss_one (ps_if (PW.pt (pw_or (pt_not (pt_val (pe_callB (k_isi K) (by rfl) T.uisinstance (by decide +kernel) (pa_cons (pv 1) (pa_cons (pe_bltn (v := .ty "int") (by rfl) T.uint (by decide +kernel) rfl) pa_nil))))) (pw_or (pt_cmpR op_lt (pv 1) pe_int (nomark _)) (pw_or1 (pt_cmpR op_gt (pv 1) (q_int T.iMOST) (nomark _)))))) (pss_one (ps_ret pe_bl)) pss_nil)))
  (pss_one (ps_ret pe_bl))))), ?_⟩
  try dsimp only [cxOf]
  obtain ⟨a, xs, ds, rfl, ha, hd, his, q⟩ := h
  have hl := hd.len
  walk_at "z"
  refine z_lenT (SqT.of ha) ?_
  walk_at "z"
  refine z_ite (fun c0 => ?_) (fun c0 => ?_)
  · walk_at "z"
    cases hd with
    | nil => exact q H (Same.refl H)
    | cons _ _ => simp at c0; omega
  walk_at "z"
  cases hd with
  | nil => simp at c0
  | @cons v vs d r hv hr =>
  refine z_ixT (SqT.of ha) (atI_of (n := 0) rfl rfl) ?_
  walk_at "z"
  have his0 := his d (by simp)
  cases hv with
  | non => cases his0
  | bl b => cases his0
  | lst _ _ => cases his0
  | tup _ _ => cases his0
  | int i =>
    refine z_isI false (by decide +kernel) ?_
    walk_at "z"
    exact q H (Same.refl H)
  | str z =>
    refine z_isS true (by decide +kernel) ?_
    walk_at "z"
    refine ⟨_, _, rfl, T.tSHAPES, ?_⟩
    walk_at "z"
    refine z_ixT (SqT.of ha) (atI_of (n := 0) rfl rfl) ?_
    refine ⟨z, rfl, ?_⟩
    walk_at "z"
    refine z_lenT (SqT.of ha) ?_
    walk_at "z"
    have el : (((V.str z :: vs).length : Nat) : Int) - 1 = (r.length : Nat) := by
      have := hr.len
      simp [this]
    rw [el]
    cases hs : shapesT.lookup z with
    | none =>
      have e1 : tabV shapesT z = .non := by unfold tabV; rw [hs]
      have e2 : isDeed (.str z :: r) = false := by
        show (decide (shapesT.lookup z = some (r.length : Int)) && r.all numOk) = false
        rw [hs]; rfl
      rw [e1]
      refine .inl ⟨rfl, ?_⟩
      walk_at "z"
      refine z_yesN (by intro z; cases z) ?_
      walk_at "z"
      rw [e2] at q
      exact q H (Same.refl H)
    | some m =>
      have e1 : tabV shapesT z = .int m := by unfold tabV; rw [hs]
      rw [e1]
      walk_at "z"
      refine z_iteN (fun c1 => ?_) (fun c1 => ?_)
      · walk_at "z"
        have e2 : isDeed (.str z :: r) = false := by
          show (decide (shapesT.lookup z = some (r.length : Int)) && r.all numOk) = false
          rw [hs, decide_eq_false (fun x => c1 (Option.some.inj x))]
          rfl
        rw [e2] at q
        exact q H (Same.refl H)
      walk_at "z"
      have e2 : isDeed (.str z :: r) = r.all numOk := by
        show (decide (shapesT.lookup z = some (r.length : Int)) && r.all numOk) = r.all numOk
        rw [hs, decide_eq_true (by rw [c1])]
        rfl
      rw [e2] at q
      refine z_slT ha (cut_from _ 1) ?_
      intro p H2 s2 f2
      have hr2 := dvAll_same s2 hr
      refine ⟨p, rfl, ⟨_, SqT.of f2⟩, ?_⟩
      refine for_tup (K := K) (a := p) (xs := vs) (fun i σ H' => H' = H2 ∧ (r.take i).all numOk = true ∧ ∃ x, σ = [some (.ref a), x]) ⟨rfl, rfl, _, rfl⟩ (fun i σ H' _ h => by rw [h.1]; exact SqT.of f2) ?_ ?_
      · rintro i x σ H' hi ⟨rfl, hall, y, rfl⟩
        obtain ⟨e, he, hv⟩ := hr2.get hi
        have hise := his e (by simp [List.mem_of_getElem? he])
        have em := List.mem_of_getElem? he
        walk_at "z"
        cases hv with
        | non => cases hise
        | bl b => cases hise
        | lst _ _ => cases hise
        | tup _ _ => cases hise
        | str y =>
          refine z_isS false (by decide +kernel) ?_
          walk_at "z"
          have : r.all numOk = false := by
            rw [List.all_eq_false]
            exact ⟨_, em, by simp [numOk]⟩
          rw [this] at q
          exact q _ s2
        | int n =>
          refine z_isI true (by decide +kernel) ?_
          walk_at "z"
          refine z_ite (fun c2 => ?_) (fun c2 => ?_)
          · walk_at "z"
            have : r.all numOk = false := by
              rw [List.all_eq_false]
              exact ⟨_, em, by simp [numOk]; omega⟩
            rw [this] at q
            exact q _ s2
          walk_at "z"
          refine z_ite (fun c3 => ?_) (fun c3 => ?_)
          · walk_at "z"
            have : r.all numOk = false := by
              rw [List.all_eq_false]
              exact ⟨_, em, by simp [numOk]; omega⟩
            rw [this] at q
            exact q _ s2
          walk_at "z"
          refine ⟨rfl, ?_, _, rfl⟩
          rw [List.take_add_one, he]
          simp only [Option.toList_some, List.all_append, List.all_cons, List.all_nil, hall, Bool.true_and, Bool.and_true, numOk]
          simp; omega
      · rintro σ H' ⟨rfl, hall, y, rfl⟩
        walk_at "z"
        rw [hr.len, List.take_of_length_le (Nat.le_refl _)] at hall
        rw [hall] at q
        exact q _ s2
abbrev nShop_new_rod : List Str := ["self", "face", "thickness", "length", "number"]
abbrev pShop_new_rod : List Str := ["self", "face", "thickness", "length"]
theorem scShop_new_rod : FnScope nShop_new_rod pShop_new_rod (defScope sShop_new_rod) := ⟨rfl, rfl, rfl, by decide +kernel, rfl, by decide +kernel, by decide +kernel⟩
theorem ok_Shop_new_rod {P : Program} {w : World} {K : PySem.W.Frag} {mg : Str → Option Value} {base : Heap} (T : Tx w K mg) : Fk P w K mg base 1 (He.ma K (He.ga K "Shop") "new_rod") pShop_new_rod (spNewRod (He.ga K "Shop")) := by
  refine Fk.mk' T.fShop_new_rod scShop_new_rod (fun _ _ _ _ _ _ us hl => match us, hl with | [_, _, _, _], _ => rfl) (by
  intro vs H Q E h
  repeat (first | (obtain ⟨h1, _⟩ := h; subst h1; rfl) | (obtain ⟨_, h⟩ := h))) (fun cdv A outer s H vs Q E hr h => ?_)
  have hu := hu_of hr
  have hu64 := hr.units
  refine ⟨_, (pss_cons (ps_set (i := 4) scShop_new_rod.nd rfl (Or.inl rfl) (k_fld K (pv 0) rfl))
  (pss_cons (ps_dput hu (k_fld K (pv 0) rfl) (pv 4) (pe_tup (pa_cons (pv 1) (pa_cons (pv 2) (pa_cons (pv 3) pa_nil)))) rfl)
  (pss_cons (k_sfld K (pv 0) (pe_op (k_add K) (pv 4) pe_int) rfl)
  (pss_one (ps_ret (pv 4)))))), ?_⟩
  try dsimp only [cxOf]
  obtain ⟨s0, p, B, now, past, ahead, f, t, l, rfl, hS, hn, hl, q⟩ := h
  walk_at "z"
  refine z_fldR hS.ob T.cShop T.aShop_coming lkS_coming ?_
  walk_at "z"
  walk_at "zt"
  rename_i a na H1 s1 f1
  have hS1 := hS.same s1
  obtain ⟨kvs, hk, hr⟩ := hS1.cur.d
  walk_at "z"
  refine z_fldR hS1.ob T.cShop T.aShop_standing lkS_standing ?_
  walk_at "z"
  refine z_dputR (DPut.k (k := .inl now.com) hk (by rw [hr.len]; exact szlt (by omega))) ?_
  have hS2 := hS1.setRods (hr.add (r := ⟨now.com, f, t, l⟩) f1 hn)
  have kp2 : Keep (fun b => b ∈ B.muts s0) H (upd H1 B.q.d (.dK (putK kvs (.inl now.com) (.ref a)))) := s1.keep.set (by simp [SB.muts, SP.muts])
  have lv2 : Live H (upd H1 B.q.d (.dK (putK kvs (.inl now.com) (.ref a)))) := s1.live.set
  generalize upd H1 B.q.d _ = H2 at hS2 kp2 lv2 ⊢
  walk_at "z"
  refine z_sfldR hS2.ob T.cShop T.aShop_coming (by simp) ptS_coming ?_
  have hS3 := hS2.setCom (c := now.com + 1)
  walk_at "z"
  exact q _ hS3 (kp2.set (by simp [SB.muts])) (lv2.set)
def spStored (C : Addr) : Sp := fun vs H Q _ => ∃ p A D ps P, ∃ t sm : Addr, vs = [.ref p, .ref t, .int (P.depth : Nat), .ref sm] ∧ FacesAt C H p A D ps ∧ H t = some (.tup ((nodeOf ps P).map V.int)) ∧ H sm = some (.lst (P.sums.map V.int)) ∧ ¬ A.foot sm ∧
  PartsIn ps P ∧ P.ok ∧ ps.length < 100000 ∧ ∀ H' D', Keep A.foot H H' → FacesAt C H' p A D' (addP ps P) → (∀ b, D b → D' b) → (∀ b, D' b → D b ∨ b = t ∨ b = sm) → Q (.int (ix (addP ps P) P : Nat)) H'
abbrev nFaces_stored : List Str := ["self", "node", "deep", "sums"]
abbrev pFaces_stored : List Str := ["self", "node", "deep", "sums"]
theorem scFaces_stored : FnScope nFaces_stored pFaces_stored (defScope sFaces_stored) := ⟨rfl, rfl, rfl, by decide +kernel, rfl, by decide +kernel, by decide +kernel⟩
theorem ok_Faces_stored {P : Program} {w : World} {K : PySem.W.Frag} {mg : Str → Option Value} {base : Heap} (T : Tx w K mg) : Fk P w K mg base 1 (He.ma K (He.ga K "Faces") "stored") pFaces_stored (spStored (He.ga K "Faces")) := by
  refine Fk.mk' T.fFaces_stored scFaces_stored (fun _ _ _ _ _ _ us hl => match us, hl with | [_, _, _, _], _ => rfl) (by
  intro vs H Q E h
  repeat (first | (obtain ⟨h1, _⟩ := h; subst h1; rfl) | (obtain ⟨_, h⟩ := h))) (fun cdv A outer s H vs Q E hr h => ?_)
  have hu := hu_of hr
  have hu64 := hr.units
  refine ⟨_, (pss_cons (ps_if (pt_cmp (pc_dnotin hu (pv 1) (k_fld K (pv 0) rfl))) (pss_cons (ps_dput hu (k_fld K (pv 0) rfl) (pv 1) (pe_callB (k_len K) (by rfl) T.ulen (by decide +kernel) (pa_cons (k_fld K (pv 0) rfl) pa_nil)) rfl)
  (pss_cons (ps_expr (k_bm K PySem.F.plainAttrs_list PySem.F.slot_list_append PySem.F.type_list_append mt_append (k_fld K (pv 0) rfl) (pa_cons (pv 1) pa_nil)))
  (pss_cons (ps_expr (k_bm K PySem.F.plainAttrs_list PySem.F.slot_list_append PySem.F.type_list_append mt_append (k_fld K (pv 0) rfl) (pa_cons (pv 2) pa_nil)))
  (pss_one (ps_expr (k_bm K PySem.F.plainAttrs_list PySem.F.slot_list_append PySem.F.type_list_append mt_append (k_fld K (pv 0) rfl) (pa_cons (pv 3) pa_nil))))))) pss_nil)
  (pss_one (ps_ret (pe_dget hu (k_fld K (pv 0) rfl) (pv 1) (fun _ _ => rfl))))), ?_⟩
  try dsimp only [cxOf]
  obtain ⟨p, A, D, ps, P, t, sm, rfl, hF, ht, hsm, nf, pin, ok, hl, q⟩ := h
  obtain ⟨dx, ob⟩ := hF.ob
  obtain ⟨ns, hn, n2, n3⟩ := hF.nodes
  obtain ⟨ss, hs, s2, s3⟩ := hF.sums
  obtain ⟨kvs, hk, k2⟩ := hF.known
  have ek : (key (nodeOf ps P)).map kV = (nodeOf ps P).map V.int := by simp [key, kV, Function.comp_def]
  have hv := k2.val P pin
  have nk : A.n ≠ A.k := ne_of hn hk (by intro z; cases z)
  have dk : A.d ≠ A.k := ne_of hF.depths hk (by intro z; cases z)
  have sk : A.s ≠ A.k := ne_of hs hk (by intro z; cases z)
  have pf := foot_p hF
  have tf := foot_tup hF ht
  obtain ⟨ap1, ap2, ap3, ap4⟩ := hF.ap
  walk_at "z"
  refine z_fldR ob T.cFaces T.aFaces_known lkFaces_known ?_
  refine z_dniR (DGet.t (k := key (nodeOf ps P)) hk (by rw [ek]; exact ht)) ?_
  walk_at "z"
  rw [hv]
  by_cases hP : P ∈ ps
  · rw [if_pos hP]
    refine iteF ?_
    walk_at "z"
    refine z_fldR ob T.cFaces T.aFaces_known lkFaces_known ?_
    walk_at "z"
    have e : addP ps P = ps := if_pos hP
    refine z_dgetR (v := .int (ix ps P : Nat)) ?_ ?_
    · have g := DGet.t (k := key (nodeOf ps P)) hk (by rw [ek]; exact ht)
      rw [hv, if_pos hP] at g
      exact g
    · rw [e] at q
      exact q H D (Keep.refl _ _) hF (fun _ h => h) fun b h => .inl h
  · have hst := hF.stored (t := t) (sm := sm) hn hs hk ht hsm nf pin ok hP
    have e : addP ps P = ps ++ [P] := if_neg hP
    rw [if_neg hP]
    refine iteT ?_
    walk_at "z"
    refine z_fldR ob T.cFaces T.aFaces_nodes lkFaces_nodes ?_
    walk_at "z"
    refine z_lenL (SqL.of hn) ?_
    walk_at "z"
    rw [List.length_map, n2]
    refine z_fldR ob T.cFaces T.aFaces_known lkFaces_known ?_
    walk_at "z"
    refine z_dputR (DPut.t (k := key (nodeOf ps P)) hk (by rw [ek]; exact ht) (by rw [k2.len]; exact szlt (by omega))) ?_
    walk_at "z"
    have pk : p ≠ A.k := fun z => pf (by rw [z]; exact .inr (.inr (.inr (.inl rfl))))
    have pn : p ≠ A.n := fun z => pf (by rw [z]; exact .inl rfl)
    have pd : p ≠ A.d := fun z => pf (by rw [z]; exact .inr (.inl rfl))
    have ps3 : p ≠ A.s := fun z => pf (by rw [z]; exact .inr (.inr (.inl rfl)))
    refine z_fldR (by rw [upd_ne pk]; exact ob) T.cFaces T.aFaces_nodes lkFaces_nodes ?_
    refine z_tyL (SqL.of (by rw [upd_ne nk]; exact hn)) ?_
    walk_at "z"
    refine z_app (by rw [upd_ne nk]; exact hn) (by rw [List.length_map]; exact szlt (by omega)) ?_
    walk_at "z"
    refine z_fldR (by rw [upd_ne pn, upd_ne pk]; exact ob) T.cFaces T.aFaces_depths lkFaces_depths ?_
    refine z_tyL (SqL.of (by rw [upd_ne ap1.symm, upd_ne dk]; exact hF.depths)) ?_
    walk_at "z"
    refine z_app (by rw [upd_ne ap1.symm, upd_ne dk]; exact hF.depths) (by rw [List.length_map]; exact szlt (by omega)) ?_
    walk_at "z"
    refine z_fldR (by rw [upd_ne pd, upd_ne pn, upd_ne pk]; exact ob) T.cFaces T.aFaces_sums lkFaces_sums ?_
    refine z_tyL (SqL.of (by rw [upd_ne ap3.symm, upd_ne ap2.symm, upd_ne sk]; exact hs)) ?_
    walk_at "z"
    refine z_app (by rw [upd_ne ap3.symm, upd_ne ap2.symm, upd_ne sk]; exact hs) (by rw [List.length_map]; exact szlt (by omega)) ?_
    walk_at "z"
    obtain ⟨kp, hF2⟩ := hst
    generalize upd (upd (upd (upd H A.k _) A.n _) A.d _) A.s _ = H4 at kp hF2 ⊢
    obtain ⟨dx2, ob2⟩ := hF2.ob
    obtain ⟨kv2, hk2, kn2⟩ := hF2.known
    refine z_fldR ob2 T.cFaces T.aFaces_known lkFaces_known ?_
    walk_at "z"
    have hv2 := kn2.val P pin.app
    rw [if_pos (by simp), node_app pin] at hv2
    refine z_dgetR (v := .int (ix (ps ++ [P]) P : Nat)) ?_ ?_
    · have g := DGet.t (k := key (nodeOf ps P)) hk2 (by rw [ek]; exact kp _ _ ht tf)
      rw [hv2] at g
      exact g
    · rw [e] at q
      exact q H4 _ kp hF2 (fun b h => .inl h) (fun b h => h)
def spPlain (C B : Addr) : Sp := fun vs H Q E => ∃ p A D ps, ∃ c : Int, vs = [.ref p, .int c] ∧ FacesAt C H p A D ps ∧ ps.length < 100000 ∧ (¬ (0 ≤ c ∧ c ≤ 9) → E (.ref B) none H) ∧
  ((0 ≤ c ∧ c ≤ 9) → After C H p A D (addP ps (.p c)) fun H' => Q (.int (ix (addP ps (.p c)) (.p c) : Nat)) H')
abbrev nFaces_plain : List Str := ["self", "colour", "k"]
abbrev pFaces_plain : List Str := ["self", "colour"]
theorem scFaces_plain : FnScope nFaces_plain pFaces_plain (defScope sFaces_plain) := ⟨rfl, rfl, rfl, by decide +kernel, rfl, by decide +kernel, by decide +kernel⟩
theorem ok_Faces_plain {P : Program} {w : World} {K : PySem.W.Frag} {mg : Str → Option Value} {base : Heap} (T : Tx w K mg) : Fk P w K mg base 2 (He.ma K (He.ga K "Faces") "plain") pFaces_plain (spPlain (He.ga K "Faces") (He.ga K "BadColour")) := by
  have GFaces_stored := ok_Faces_stored (P := P) (w := w) (base := base) T
  refine Fk.mk' T.fFaces_plain scFaces_plain (fun _ _ _ _ _ _ us hl => match us, hl with | [_, _], _ => rfl) (by
  intro vs H Q E h
  repeat (first | (obtain ⟨h1, _⟩ := h; subst h1; rfl) | (obtain ⟨_, h⟩ := h))) (fun cdv A outer s H vs Q E hr h => ?_)
  have hu := hu_of hr
  have hu64 := hr.units
  refine ⟨_, (pss_cons (ps_if (PW.pt (pw_or (pt_cmpR op_lt (pv 1) pe_int (nomark _)) (pw_or1 (pt_cmpR op_ge (pv 1) (q_int T.iCOLOURS) (nomark _))))) (pss_one (ps_raise rfl takesX (pmk_own PySem.F.excBase_ValueError T.eBadColour.1 T.gBadColour T.eBadColour.2.1 (raises_own T.eBadColour.2.2.1 T.eBadColour.2.2.2) (by rfl)))) pss_nil)
  (pss_one (ps_ret (q_meth (pv 0) T.cFaces T.mFaces_stored GFaces_stored (hr.mono (by omega)) passX (pa_cons (pe_tup (pa_cons (pv 1) pa_nil)) (pa_cons pe_int (pa_cons (pe_lc (own := [("k", 2)]) (g := gName 2) rfl scFaces_plain.nd (pi_range1 (by rfl) T.urange (pa_cons (q_int T.iCOLOURS) pa_nil)) (blkOk_by (own := [("k", 2)]) (N := nFaces_plain) (sc := defScope sFaces_plain) (by decide +kernel)) (fun _ _ _ _ _ => pg_name (i := 2) scFaces_plain.nd rfl (Or.inl rfl)) (fun _ _ _ _ _ => pts_nil) (fun _ _ _ _ _ => (pe_callTy call_intU (by rfl) T.uint (by decide +kernel) (pa_cons (pe_cmpR (k_eq K hu64) (pv 2) (pv 1) (nomark _)) pa_nil)))) pa_nil))))))), ?_⟩
  try dsimp only [cxOf]
  obtain ⟨p, A, D, ps, c, rfl, hF, hl, e, q⟩ := h
  obtain ⟨dx, ob⟩ := hF.ob
  walk_at "z"
  refine z_ite (fun c1 => ?_) (fun c1 => ?_)
  · walk_at "z"
    exact e (by omega)
  walk_at "z"
  refine z_ite (fun c2 => ?_) (fun c2 => ?_)
  · walk_at "z"
    exact e (by omega)
  walk_at "z"
  refine z_methR ob noFaces_stored ?_
  walk_at "z"
  refine ⟨sz1000 (by simp), fun t ht => ?_⟩
  walk_at "z"
  refine ⟨_, rfl, by decide, by decide, fun L hL => ?_⟩
  refine lc_range (lo := 0) (n := 10) (fun i H' => H' = upd (upd H t (.tup [V.int c])) L (.lst (((List.range i).map fun k : Nat => (if (k : Int) = c then 1 else 0)).map V.int))) rfl ?_ ?_
  · rintro i H' hi rfl
    walk_at "zw"
    walk_at "z"
    refine ⟨rfl, ?_⟩
    walk_at "z"
    refine ⟨_, upd_same, szlt (by simp; omega), ?_⟩
    rw [upd_upd, List.range_succ, List.map_append, List.map_append]
    have e2 : (if (decide ((0 : Int) + (i : Nat) = c)) = true then (1 : Int) else 0) = if (i : Int) = c then 1 else 0 := by
      by_cases h : (i : Int) = c
      · rw [if_pos (by simpa using h), if_pos h]
      · rw [if_neg (by simpa using h), if_neg h]
    rw [e2]
    rfl
  · rintro H' rfl
    walk_at "z"
    have hc : 0 ≤ c ∧ c ≤ 9 := by omega
    have tL : t ≠ L := ne_of_none upd_same hL
    have hL0 : H L = none := by rw [upd_ne tL.symm] at hL; exact hL
    have sm : Same H (upd (upd H t (.tup [V.int c])) L (.lst (((List.range 10).map fun k : Nat => (if (k : Int) = c then (1 : Int) else 0)).map V.int))) := (Same.new ht).set hL0
    have fL : ∀ b, A.foot b → H b ≠ none := fun b hb z => by
      obtain ⟨ns, hn, _⟩ := hF.nodes
      obtain ⟨ss, hs, _⟩ := hF.sums
      obtain ⟨kvs, hk, _⟩ := hF.known
      obtain ⟨wh, hw, _⟩ := hF.whirl
      rcases hb with rfl | rfl | rfl | rfl | rfl
      · rw [hn] at z; cases z
      · rw [hF.depths] at z; cases z
      · rw [hs] at z; cases z
      · rw [hk] at z; cases z
      · rw [hw] at z; cases z
    refine ⟨p, A, D, ps, .p c, t, L, rfl, hF.same sm, ?_, upd_same, fun z => fL L z hL0, (fun Q hQ => by simp [Pic.parts] at hQ), hc, hl, fun H' D' kp hF' d1 d2 => ?_⟩
    · rw [upd_ne tL]
      exact upd_same
    · refine q hc H' D' (sm.keep.trans kp) hF' d1 fun b hb => ?_
      rcases d2 b hb with z | rfl | rfl
      · exact .inl z
      · exact .inr ht
      · exact .inr hL0
abbrev nShop_gather : List Str := ["self", "colour", "thickness", "length", "number"]
abbrev pShop_gather : List Str := ["self", "colour", "thickness", "length"]
theorem scShop_gather : FnScope nShop_gather pShop_gather (defScope sShop_gather) := ⟨rfl, rfl, rfl, by decide +kernel, rfl, by decide +kernel, by decide +kernel⟩
theorem ok_Shop_gather {P : Program} {w : World} {K : PySem.W.Frag} {mg : Str → Option Value} {base : Heap} (T : Tx w K mg) : Fk P w K mg base 3 (He.ma K (He.ga K "Shop") "gather") pShop_gather (spDeed K 3 mkGather) := by
  have GShop_began := ok_Shop_began (P := P) (w := w) (base := base) T
  have GShop_new_rod := ok_Shop_new_rod (P := P) (w := w) (base := base) T
  have GFaces_plain := ok_Faces_plain (P := P) (w := w) (base := base) T
  have Garea := ok_area (P := P) (w := w) (base := base) T
  refine Fk.mk' T.fShop_gather scShop_gather (fun _ _ _ _ _ _ us hl => match us, hl with | [_, _, _, _], _ => rfl) (fun vs H Q E h => spDeed_len h) (fun cdv A outer s H vs Q E hr h => ?_)
  have hu := hu_of hr
  have hu64 := hr.units
  refine ⟨_, (pss_cons (ps_if (PW.pt (pw_or (pt_cmpR op_lt (pv 1) pe_int (nomark _)) (pw_or1 (pt_cmpR op_gt (pv 1) pe_int (nomark _))))) (pss_one (ps_raise rfl takesX (pmk_own PySem.F.excBase_ValueError T.eBadColour.1 T.gBadColour T.eBadColour.2.1 (raises_own T.eBadColour.2.2.1 T.eBadColour.2.2.2) (by rfl)))) pss_nil)
  (pss_cons (ps_if (PW.pt (pw_or (pt_cmpR op_lt (pv 2) pe_int (nomark _)) (pw_or1 (pt_cmpR op_gt (pv 2) (q_int T.iTHICKEST) (nomark _))))) (pss_one (ps_raise rfl takesX (pmk_own PySem.F.excBase_ValueError T.eBadThickness.1 T.gBadThickness T.eBadThickness.2.1 (raises_own T.eBadThickness.2.2.1 T.eBadThickness.2.2.2) (by rfl)))) pss_nil)
  (pss_cons (ps_if (PW.pt (pw_or (pt_cmpR op_lt (pv 3) pe_int (nomark _)) (pw_or1 (pt_cmpR op_gt (pv 3) (q_int T.iLONGEST) (nomark _))))) (pss_one (ps_raise rfl takesX (pmk_own PySem.F.excBase_ValueError T.eBadLength.1 T.gBadLength T.eBadLength.2.1 (raises_own T.eBadLength.2.2.1 T.eBadLength.2.2.2) (by rfl)))) pss_nil)
  (pss_cons (ps_expr (q_meth (pv 0) T.cShop T.mShop_began GShop_began (hr.mono (by omega)) passX (pa_cons (pe_tup (pa_cons pe_str (pa_cons (pv 1) (pa_cons (pv 2) (pa_cons (pv 3) pa_nil))))) pa_nil)))
  (pss_cons (ps_set (i := 4) scShop_gather.nd rfl (Or.inl rfl) (q_meth (pv 0) T.cShop T.mShop_new_rod GShop_new_rod (hr.mono (by omega)) passX (pa_cons (q_meth (k_fld K (pv 0) rfl) T.cFaces T.mFaces_plain GFaces_plain (hr.mono (by omega)) passX (pa_cons (pv 1) pa_nil)) (pa_cons (pv 2) (pa_cons (pv 3) pa_nil)))))
  (pss_cons (ps_augS (k_ix K (k_fld K (pv 0) rfl) pe_int (fun _ _ => rfl)) (pv 1) (k_get K) (pe_op op_mulU (q_call Garea (hr.mono (by omega)) T.garea passX (pa_cons (pv 2) pa_nil)) (pv 3)) ip_add set_list)
  (pss_one (ps_ret (pv 4))))))))), ?_⟩
  try dsimp only [cxOf]
  obtain ⟨x, l0, dd, rfl, hl0, hmk, h, hk, q⟩ := h
  obtain ⟨c, t, l, rfl⟩ := three hl0
  obtain rfl := Option.some.inj hmk
  have hst := h.ok _ (.inl rfl)
  walk_at "z"
  refine z_ite (fun c1 => ?_) (fun c1 => ?_)
  · walk_at "z"
    exact q.1 "BadColour" (by unfold refuse; simp only; rw [if_pos (by omega)]) H (Same.refl H)
  walk_at "z"
  refine z_ite (fun c2 => ?_) (fun c2 => ?_)
  · walk_at "z"
    exact q.1 "BadColour" (by unfold refuse; simp only; rw [if_pos (by omega)]) H (Same.refl H)
  walk_at "z"
  refine z_ite (fun c3 => ?_) (fun c3 => ?_)
  · walk_at "z"
    exact q.1 "BadThickness" (by unfold refuse; simp only; rw [if_neg (by omega), if_pos (by omega)]) H (Same.refl H)
  walk_at "z"
  refine z_ite (fun c4 => ?_) (fun c4 => ?_)
  · walk_at "z"
    exact q.1 "BadThickness" (by unfold refuse; simp only; rw [if_neg (by omega), if_pos (by omega)]) H (Same.refl H)
  walk_at "z"
  refine z_ite (fun c5 => ?_) (fun c5 => ?_)
  · walk_at "z"
    exact q.1 "BadLength" (by unfold refuse; simp only; rw [if_neg (by omega), if_neg (by omega), if_pos (by omega)]) H (Same.refl H)
  walk_at "z"
  refine z_ite (fun c6 => ?_) (fun c6 => ?_)
  · walk_at "z"
    exact q.1 "BadLength" (by unfold refuse; simp only; rw [if_neg (by omega), if_neg (by omega), if_pos (by omega)]) H (Same.refl H)
  have hr : refuse x.ps x.now (.gather c t l) = none := by unfold refuse; simp only; rw [if_neg (by omega), if_neg (by omega), if_neg (by omega)]
  obtain ⟨cn, rfl⟩ : ∃ n : Nat, c = (n : Nat) := ⟨c.toNat, by omega⟩
  obtain ⟨tn, rfl⟩ : ∃ n : Nat, t = (n : Nat) := ⟨t.toNat, by omega⟩
  walk_at "z"
  refine z_methR h.S.ob noS_began ?_
  walk_at "z"
  walk_at "zt"
  rename_i dt ndt H1 s1 f1
  have h1 := h.same s1
  have hdl := hst.dl
  have hrl := hst.rl
  have hpl := h.pl
  walk_at "z"
  refine ⟨x.s, x.p, x.B, x.now, x.past, x.ahead, dt, .gather cn tn l, rfl, h1.S, f1, by omega, by omega, fun H2 B2 hS2 kp2 lv2 m2 => ?_⟩
  have m2' : ∀ b ∈ B2.muts x.s, b ∈ x.B.muts x.s ∨ H b = none := fun b hb => (m2 b hb).imp id s1.free
  have hF2 := Ws.at.facesKeep (x := x) h1 kp2
  have ap2 := Ws.at.apM (x := x) h1 m2
  obtain ⟨dxf, obf⟩ := hF2.ob
  walk_at "z"
  refine z_methR hS2.ob noS_new_rod ?_
  walk_at "z"
  refine z_fldR hS2.ob T.cShop T.aShop_faces lkS_faces ?_
  refine z_methR obf noFaces_plain ?_
  walk_at "z"
  have hlen := h.len
  refine ⟨x.p, x.A, x.D, x.ps, cn, rfl, hF2, by omega, fun no => absurd ⟨by omega, by omega⟩ no, fun _ H3 D3 kp3 hF3 d1 d3 => ?_⟩
  have hB3 : Base (x.bs ++ [.p cn]) (addP x.ps (.p cn)) := (h.base.mono fun B hB => List.mem_append_left _ hB).add ⟨_, by simp, 0, by decide, (turn_zero _).symm⟩
  have hM3 : Pic.p cn ∈ addP x.ps (.p cn) := addP_mem _ _
  obtain ⟨rs, ers⟩ := addP_ext x.ps (.p cn)
  rw [ers] at hF3 hB3 hM3 ⊢
  have hS3 := shopKeep hS2 hF2 ap2 kp3
  have ap3 := apKeep hS2 ap2 d3
  walk_at "z"
  refine ⟨x.s, x.p, B2, _, _, _, _, _, _, rfl, hS3, hst.ro.fresh, by dsimp only; omega, fun H4 hS4 kp4 lv4 => ?_⟩
  walk_at "z"
  refine z_fldR hS4.ob T.cShop T.aShop_amounts lkS_amounts ?_
  walk_at "z"
  refine z_ixT (SqT.of hS4.cur.am) (atI_of (n := 0) rfl rfl) ?_
  walk_at "z"
  have ha0 := hst.a0
  have hcl : cn < x.now.a0.length := by rw [ha0.ten]; omega
  refine z_getL (n := cn) (SqL.of hS4.cur.l0) rfl (v := .int (x.now.a0.getD cn 0)) (by rw [List.getElem?_map, List.getD_eq_getElem?_getD, List.getElem?_eq_getElem hcl]; rfl) ?_
  walk_at "z"
  refine ⟨tn, rfl, by omega, ?_⟩
  walk_at "z"
  have h44 : (4 : Int) ^ tn ≤ 4 ^ 12 := pow4_le (by omega)
  have h40 := pow4 tn
  have e12 : (4 : Int) ^ 12 = 16777216 := by decide
  refine z_mulI (mulS (by omega) (by omega)) ?_
  walk_at "z"
  refine z_setL (n := cn) hS4.cur.l0 rfl (by rw [List.length_map]; exact hcl) ?_
  have hS5 := hS4.setA0 (l := x.now.a0.set cn (x.now.a0.getD cn 0 + 4 ^ tn * l))
  rw [List.map_set] at hS5
  walk_at "z"
  have lvH2 : Live H H2 := s1.live.trans lv2
  have lvH3 : Live H H3 := lvH2.trans (liveF hF3 kp3)
  have m23 : ∀ b, b ∈ B2.muts x.s → x.foot b ∨ H b = none := fun b hb => (m2' b hb).imp (fun z => .inr z) id
  have kpA : Keep x.foot H H4 := keepM (keepF (s1.keep.trans (kp2.mono fun _ z => .inr z)) kp3) m23 kp4
  refine q.fin h hk hr (B' := B2) (cs := x.bs ++ [.p cn]) (hF3.keep fun b o hb e => ?_) hB3 (by simp) hM3 hS5 ap3 (kpA.setM (m23 _ (by simp [SB.muts, SP.muts]))) ((lvH3.trans lv4).set) (fun b hb => (d3 b hb).imp id fun z => lvH2 b z) m2'
  have hb2 : b ∉ B2.muts x.s := fun z => ap3 b z hb
  rw [upd_ne (fun z => hb2 (by rw [z]; simp [SB.muts, SP.muts]))]
  exact kp4 b o e hb2
def spDepth (C N : Addr) : Sp := fun vs H Q E => ∃ p A D ps, ∃ f : Int, vs = [.ref p, .int f] ∧ FacesAt C H p A D ps ∧ (∀ P, IsF ps f P → Q (.int (P.depth : Nat)) H) ∧ (¬ (0 ≤ f ∧ f < ps.length) → E (.ref N) none H)
abbrev nFaces_depth : List Str := ["self", "face"]
abbrev pFaces_depth : List Str := ["self", "face"]
theorem scFaces_depth : FnScope nFaces_depth pFaces_depth (defScope sFaces_depth) := ⟨rfl, rfl, rfl, by decide +kernel, rfl, by decide +kernel, by decide +kernel⟩
theorem ok_Faces_depth {P : Program} {w : World} {K : PySem.W.Frag} {mg : Str → Option Value} {base : Heap} (T : Tx w K mg) : Fk P w K mg base 2 (He.ma K (He.ga K "Faces") "depth") pFaces_depth (spDepth (He.ga K "Faces") (He.ga K "NoFace")) := by
  have GFaces_need := ok_Faces_need (P := P) (w := w) (base := base) T
  refine Fk.mk' T.fFaces_depth scFaces_depth (fun _ _ _ _ _ _ us hl => match us, hl with | [_, _], _ => rfl) (by
  intro vs H Q E h
  repeat (first | (obtain ⟨h1, _⟩ := h; subst h1; rfl) | (obtain ⟨_, h⟩ := h))) (fun cdv A outer s H vs Q E hr h => ?_)
  have hu := hu_of hr
  have hu64 := hr.units
  refine ⟨_, (pss_cons (ps_expr (q_meth (pv 0) T.cFaces T.mFaces_need GFaces_need (hr.mono (by omega)) passX (pa_cons (pv 1) pa_nil)))
  (pss_one (ps_ret (k_ix K (k_fld K (pv 0) rfl) (pv 1) (fun _ _ => rfl))))), ?_⟩
  try dsimp only [cxOf]
  obtain ⟨p, A, D, ps, f, rfl, hF, q, e⟩ := h
  obtain ⟨dx, ob⟩ := hF.ob
  walk_at "z"
  refine z_methR ob noFaces_need ?_
  walk_at "z"
  refine ⟨p, A, D, ps, f, rfl, hF, fun c => ?_, e⟩
  obtain ⟨P, hP⟩ := IsF.ex c.1 c.2
  walk_at "z"
  refine z_fldR ob T.cFaces T.aFaces_depths lkFaces_depths ?_
  walk_at "z"
  exact z_ixL (SqL.of hF.depths) (FacesAt.depthAt hP) (q P hP)
abbrev nShop_pull : List Str := ["self", "rod", "steps", "face", "thickness", "length"]
abbrev pShop_pull : List Str := ["self", "rod", "steps"]
theorem scShop_pull : FnScope nShop_pull pShop_pull (defScope sShop_pull) := ⟨rfl, rfl, rfl, by decide +kernel, rfl, by decide +kernel, by decide +kernel⟩
theorem ok_Shop_pull {P : Program} {w : World} {K : PySem.W.Frag} {mg : Str → Option Value} {base : Heap} (T : Tx w K mg) : Fk P w K mg base 3 (He.ma K (He.ga K "Shop") "pull") pShop_pull (spDeed K 2 mkPull) := by
  have GShop_rod := ok_Shop_rod (P := P) (w := w) (base := base) T
  have GShop_began := ok_Shop_began (P := P) (w := w) (base := base) T
  have GFaces_depth := ok_Faces_depth (P := P) (w := w) (base := base) T
  have Garea := ok_area (P := P) (w := w) (base := base) T
  refine Fk.mk' T.fShop_pull scShop_pull (fun _ _ _ _ _ _ us hl => match us, hl with | [_, _, _], _ => rfl) (fun vs H Q E h => spDeed_len h) (fun cdv A outer s H vs Q E hr h => ?_)
  have hu := hu_of hr
  have hu64 := hr.units
  refine ⟨_, (pss_cons (ps_asg (q_meth (pv 0) T.cShop T.mShop_rod GShop_rod (hr.mono (by omega)) passX (pa_cons (pv 1) pa_nil)) (k_pgt (n := 3) K rfl (pgs_cons (pg_name (i := 3) scShop_pull.nd rfl (Or.inl rfl)) (pgs_cons (pg_name (i := 4) scShop_pull.nd rfl (Or.inl rfl)) (pgs_cons (pg_name (i := 5) scShop_pull.nd rfl (Or.inl rfl)) pgs_nil)))))
  (pss_cons (ps_if (pt_cmpR op_lt (pv 2) pe_int (nomark _)) (pss_one (ps_raise rfl takesX (pmk_own PySem.F.excBase_ValueError T.eBadSteps.1 T.gBadSteps T.eBadSteps.2.1 (raises_own T.eBadSteps.2.2.1 T.eBadSteps.2.2.2) (by rfl)))) pss_nil)
  (pss_cons (ps_if (pt_cmpR op_lt (pe_op op_sub (pv 4) (pv 2)) (q_meth (k_fld K (pv 0) rfl) T.cFaces T.mFaces_depth GFaces_depth (hr.mono (by omega)) passX (pa_cons (pv 3) pa_nil)) (nomark _)) (pss_one (ps_raise rfl takesX (pmk_own PySem.F.excBase_ValueError T.eTooThin.1 T.gTooThin T.eTooThin.2.1 (raises_own T.eTooThin.2.2.1 T.eTooThin.2.2.2) (by rfl)))) pss_nil)
  (pss_cons (ps_expr (q_meth (pv 0) T.cShop T.mShop_began GShop_began (hr.mono (by omega)) passX (pa_cons (pe_tup (pa_cons pe_str (pa_cons (pv 1) (pa_cons (pv 2) pa_nil)))) pa_nil)))
  (pss_one (ps_dput hu (k_fld K (pv 0) rfl) (pv 1) (pe_tup (pa_cons (pv 3) (pa_cons (pe_op op_sub (pv 4) (pv 2)) (pa_cons (pe_op op_mulU (pv 5) (q_call Garea (hr.mono (by omega)) T.garea passX (pa_cons (pv 2) pa_nil))) pa_nil)))) rfl)))))), ?_⟩
  try dsimp only [cxOf]
  obtain ⟨x, l0, dd, rfl, hl0, hmk, h, hk, q⟩ := h
  obtain ⟨n, m, rfl⟩ := two hl0
  obtain rfl := Option.some.inj hmk
  have hst := h.ok _ (.inl rfl)
  have hdl := hst.dl
  have hrl := hst.rl
  have hpl := h.pl
  walk_at "z"
  refine z_methR h.S.ob noS_rod ?_
  walk_at "z"
  refine ⟨x.s, x.p, x.B, x.now, n, rfl, h.S.rd, fun no => q.1 "NoRod" (by unfold refuse; simp only; rw [no]) H (Same.refl H), fun r a hf ha => ?_⟩
  obtain ⟨hn, hmem⟩ := findR_n hf
  obtain ⟨⟨⟨P, hP, hd⟩, thin, long, cap, one⟩, lt⟩ := hst.rod r hmem
  have hd12 := ok_depth (h.F.inv.ok P hP.mem)
  refine z_gTup (SqT.of ha) rfl ?_
  walk_at "z"
  obtain ⟨dxf, obf⟩ := h.F.ob
  refine z_ite (fun c1 => ?_) (fun c1 => ?_)
  · walk_at "z"
    exact q.1 "BadSteps" (by unfold refuse; simp only; rw [hf]; simp only; rw [if_pos c1]) H (Same.refl H)
  walk_at "z"
  refine z_fldR h.S.ob T.cShop T.aShop_faces lkS_faces ?_
  refine z_methR obf noFaces_depth ?_
  walk_at "z"
  refine ⟨x.p, x.A, x.D, x.ps, r.f, rfl, h.F, fun P2 hP2 => ?_, fun no => absurd ⟨hP.1, hP.lt⟩ no⟩
  obtain rfl := hP2.inj hP
  walk_at "z"
  refine z_ite (fun c2 => ?_) (fun c2 => ?_)
  · walk_at "z"
    exact q.1 "TooThin" (by unfold refuse; simp only; rw [hf]; simp only; rw [if_neg c1, depthF_of hP, if_pos c2]) H (Same.refl H)
  have hr : refuse x.ps x.now (.pull n m) = none := by unfold refuse; simp only; rw [hf]; simp only; rw [if_neg c1, depthF_of hP, if_neg c2]
  obtain ⟨k, rfl⟩ : ∃ k : Nat, m = (k : Nat) := ⟨m.toNat, by omega⟩
  walk_at "z"
  refine z_methR h.S.ob noS_began ?_
  walk_at "z"
  walk_at "zt"
  rename_i dt ndt H1 s1 f1
  have h1 := h.same s1
  walk_at "z"
  refine ⟨x.s, x.p, x.B, x.now, x.past, x.ahead, dt, .pull n k, rfl, h1.S, f1, by omega, by omega, fun H2 B2 hS2 kp2 lv2 m2 => ?_⟩
  have m2' : ∀ b ∈ B2.muts x.s, b ∈ x.B.muts x.s ∨ H b = none := fun b hb => (m2 b hb).imp id s1.free
  have m23 : ∀ b, b ∈ B2.muts x.s → b ∈ x.B.muts x.s ∨ H b = none := fun b hb => m2' b hb
  have kpH : Keep (fun b => b ∈ x.B.muts x.s) H H2 := s1.keep.trans kp2
  have lvH : Live H H2 := s1.live.trans lv2
  obtain ⟨kvs, hkv, hrs⟩ := hS2.cur.d
  walk_at "z"
  refine ⟨k, rfl, by omega, ?_⟩
  walk_at "z"
  have h44 : (4 : Int) ^ k ≤ 4 ^ 12 := pow4_le (by omega)
  have h40 := pow4 k
  have e12 : (4 : Int) ^ 12 = 16777216 := by decide
  have hkl := h.kl
  refine z_mulI (mulx_ok (a := 60 + 30 * x.k) (b := 30) (by
      have h0 : ((r.l.natAbs : Nat) : Int) = r.l := Int.natAbs_of_nonneg (by omega)
      have h1 : ((r.l.natAbs : Nat) : Int) < ((2 ^ (60 + 30 * x.k) : Nat) : Int) := by rw [h0]; push_cast; exact cap
      exact Int.ofNat_lt.mp h1) (by omega) (by omega)) ?_
  walk_at "z"
  walk_at "zt"
  rename_i t nt H3 s3 f3
  have hS3 := hS2.same s3
  walk_at "z"
  refine z_fldR hS3.ob T.cShop T.aShop_standing lkS_standing ?_
  walk_at "z"
  refine z_dputR (DPut.k (k := .inl n) (s3 _ _ hkv) (by rw [hrs.len]; exact szlt (by dsimp only; omega))) ?_
  have hS4 := hS3.setRods ((hrs.stay fun a xs e => s3 _ _ e).put (r := ⟨n, r.f, r.t - k, r.l * 4 ^ k⟩) f3 (by dsimp only; rw [hf]; rfl))
  refine q.fin0 h hk hr (B' := B2) trivial (by
    have e : eff x.ps x.now (.pull n k) = { x.now with deeds := x.now.deeds ++ [.pull n k], rods := setR x.now.rods ⟨n, r.f, r.t - k, r.l * 4 ^ k⟩ } := by
      simp only [eff, findR_some hf]
      rfl
    rw [e]; exact hS4) ((kpH.trans s3.keep).setM (m23 _ (by simp [SB.muts, SP.muts]))) ((lvH.trans s3.live).set) m2'
def fourMax (A B C D : Pic) : Nat := max (max A.depth B.depth) (max C.depth D.depth)
def spFour (C N TD : Addr) : Sp := fun vs H Q E => ∃ p A D ps, ∃ a b c d : Int, vs = [.ref p, .int a, .int b, .int c, .int d] ∧ FacesAt C H p A D ps ∧ ps.length < 100000 ∧
  (¬ ((0 ≤ a ∧ a < ps.length) ∧ (0 ≤ b ∧ b < ps.length) ∧ (0 ≤ c ∧ c < ps.length) ∧ (0 ≤ d ∧ d < ps.length)) → ∀ H', Same H H' → E (.ref N) none H') ∧
  (∀ PA PB PC PD, IsF ps a PA → IsF ps b PB → IsF ps c PC → IsF ps d PD →
    (12 < (Pic.mk PA PB PC PD).depth → ∀ H', Same H H' → E (.ref TD) none H') ∧
    ((Pic.mk PA PB PC PD).depth ≤ 12 → After C H p A D (addP ps (Pic.mk PA PB PC PD)) fun H' => Q (.int (ix (addP ps (Pic.mk PA PB PC PD)) (Pic.mk PA PB PC PD) : Nat)) H'))
abbrev nFaces_four : List Str := ["self", "a", "b", "c", "d", "face", "deep", "sums", "colour"]
abbrev pFaces_four : List Str := ["self", "a", "b", "c", "d"]
theorem scFaces_four : FnScope nFaces_four pFaces_four (defScope sFaces_four) := ⟨rfl, rfl, rfl, by decide +kernel, rfl, by decide +kernel, by decide +kernel⟩
theorem ok_Faces_four {P : Program} {w : World} {K : PySem.W.Frag} {mg : Str → Option Value} {base : Heap} (T : Tx w K mg) : Fk P w K mg base 2 (He.ma K (He.ga K "Faces") "four") pFaces_four (spFour (He.ga K "Faces") (He.ga K "NoFace") (He.ga K "TooDeep")) := by
  have GFaces_stored := ok_Faces_stored (P := P) (w := w) (base := base) T
  have GFaces_need := ok_Faces_need (P := P) (w := w) (base := base) T
  have Garea := ok_area (P := P) (w := w) (base := base) T
  refine Fk.mk' T.fFaces_four scFaces_four (fun _ _ _ _ _ _ us hl => match us, hl with | [_, _, _, _, _], _ => rfl) (by
  intro vs H Q E h
  repeat (first | (obtain ⟨h1, _⟩ := h; subst h1; rfl) | (obtain ⟨_, h⟩ := h))) (fun cdv A outer s H vs Q E hr h => ?_)
  have hu := hu_of hr
  have hu64 := hr.units
  refine ⟨_, (pss_cons (ps_for (passes_of rfl) rfl (k_pit K (pe_tup (pa_cons (pv 1) (pa_cons (pv 2) (pa_cons (pv 3) (pa_cons (pv 4) pa_nil)))))) (pg_name (i := 5) scFaces_four.nd rfl (Or.inl rfl)) (pss_one (ps_expr (q_meth (pv 0) T.cFaces T.mFaces_need GFaces_need (hr.mono (by omega)) passX (pa_cons (pv 5) pa_nil)))))
  (pss_cons (ps_if (PW.pt (pw_and (pt_cmpR (k_eq K hu64) (pv 1) (pv 2) (nomark _)) (pw_and (pt_cmpR (k_eq K hu64) (pv 2) (pv 3) (nomark _)) (pw_and (pt_cmpR (k_eq K hu64) (pv 3) (pv 4) (nomark _)) (pw_and1 (pt_cmpR (k_eq K hu64) (k_ix K (k_fld K (pv 0) rfl) (pv 1) (fun _ _ => rfl)) pe_int (nomark _))))))) (pss_one (ps_ret (pv 1))) pss_nil)
  (pss_cons (ps_set (i := 6) scFaces_four.nd rfl (Or.inl rfl) (pe_callB (k_max K rfl) (by rfl) T.umax (by decide +kernel) (pa_cons (pe_lc (own := [("face", 5)]) (g := gName 5) rfl scFaces_four.nd (k_pit K (pe_tup (pa_cons (pv 1) (pa_cons (pv 2) (pa_cons (pv 3) (pa_cons (pv 4) pa_nil)))))) (blkOk_by (own := [("face", 5)]) (N := nFaces_four) (sc := defScope sFaces_four) (by decide +kernel)) (fun _ _ _ _ _ => pg_name (i := 5) scFaces_four.nd rfl (Or.inl rfl)) (fun _ _ _ _ _ => pts_nil) (fun _ _ _ _ _ => (k_ix K (k_fld K (pv 0) rfl) (pv 5) (fun _ _ => rfl)))) pa_nil)))
  (pss_cons (ps_if (pt_cmpR op_ge (pv 6) (q_int T.iDEEPEST) (nomark _)) (pss_one (ps_raise rfl takesX (pmk_own PySem.F.excBase_ValueError T.eTooDeep.1 T.gTooDeep T.eTooDeep.2.1 (raises_own T.eTooDeep.2.2.1 T.eTooDeep.2.2.2) (by rfl)))) pss_nil)
  (pss_cons (ps_set (i := 7) scFaces_four.nd rfl (Or.inl rfl) (pe_op op_mulU (pe_lst (pa_cons pe_int pa_nil)) (q_int T.iCOLOURS)))
  (pss_cons (ps_for (passes_of rfl) rfl (k_pit K (pe_tup (pa_cons (pv 1) (pa_cons (pv 2) (pa_cons (pv 3) (pa_cons (pv 4) pa_nil)))))) (pg_name (i := 5) scFaces_four.nd rfl (Or.inl rfl)) (pss_one (ps_for (passes_of rfl) rfl (pi_range1 (by rfl) T.urange (pa_cons (q_int T.iCOLOURS) pa_nil)) (pg_name (i := 8) scFaces_four.nd rfl (Or.inl rfl)) (pss_one (ps_augS (pv 7) (pv 8) (k_get K) (pe_op op_mulU (k_ix K (k_ix K (k_fld K (pv 0) rfl) (pv 5) (fun _ _ => rfl)) (pv 8) (fun _ _ => rfl)) (q_call Garea (hr.mono (by omega)) T.garea passX (pa_cons (pe_op op_sub (pv 6) (k_ix K (k_fld K (pv 0) rfl) (pv 5) (fun _ _ => rfl))) pa_nil))) ip_add set_list)))))
  (pss_one (ps_ret (q_meth (pv 0) T.cFaces T.mFaces_stored GFaces_stored (hr.mono (by omega)) passX (pa_cons (pe_tup (pa_cons (pv 1) (pa_cons (pv 2) (pa_cons (pv 3) (pa_cons (pv 4) pa_nil))))) (pa_cons (pe_op (k_add K) (pv 6) pe_int) (pa_cons (pv 7) pa_nil)))))))))))), ?_⟩
  try dsimp only [cxOf]
  obtain ⟨p, A, D, ps, a, b, c, d, rfl, hF, hl, e, q⟩ := h
  obtain ⟨dx, ob⟩ := hF.ob
  walk_at "z"
  walk_at "zt"
  rename_i tp hp1 H1 s1 f1
  have hF1 := hF.same s1
  walk_at "z"
  refine ⟨tp, rfl, ⟨_, SqT.of f1⟩, for_tup (K := K) (a := tp) (xs := [V.int a, V.int b, V.int c, V.int d]) (fun i σ H' => H' = H1 ∧ (∀ j z, j < i → ([a, b, c, d] : List Int)[j]? = some z → 0 ≤ z ∧ z < ps.length) ∧ ∃ v, σ = [some (.ref p), some (.int a), some (.int b), some (.int c), some (.int d), v, none, none, none])
    ⟨rfl, fun j z h => absurd h (Nat.not_lt_zero _), none, rfl⟩ (fun i σ H' _ h => by rw [h.1]; exact SqT.of f1) ?_ ?_⟩
  · rintro i x σ H' hi ⟨rfl, hv, v, rfl⟩
    have hi4 : i < 4 := by have := (List.getElem?_eq_some_iff.mp hi).1; simpa using this
    obtain ⟨z, hz, rfl⟩ : ∃ z : Int, ([a, b, c, d] : List Int)[i]? = some z ∧ x = .int z := by
      have hm : ([V.int a, V.int b, V.int c, V.int d] : List V) = ([a, b, c, d] : List Int).map V.int := rfl
      rw [hm, List.getElem?_map] at hi
      cases r : ([a, b, c, d] : List Int)[i]? with
      | none => rw [r] at hi; cases hi
      | some z => rw [r] at hi; exact ⟨z, rfl, (Option.some.inj hi).symm⟩
    walk_at "z"
    refine z_methR (s1 _ _ ob) noFaces_need ?_
    walk_at "z"
    refine ⟨p, A, D, ps, z, rfl, hF1, fun hz2 => ?_, fun hz2 => ?_⟩
    · refine ⟨rfl, fun j y hj ey => ?_, _, rfl⟩
      by_cases hji : j = i
      · subst hji
        rw [hz] at ey
        cases ey
        exact hz2
      · exact hv j y (by omega) ey
    · refine e (fun hall => hz2 ?_) _ s1
      have : i = 0 ∨ i = 1 ∨ i = 2 ∨ i = 3 := by omega
      rcases this with rfl | rfl | rfl | rfl <;> simp at hz <;> subst hz <;> simp [hall]
  · rintro σ H' ⟨rfl, hv, v, rfl⟩
    obtain ⟨PA, hA⟩ := IsF.ex (hv 0 a (by simp) rfl).1 (hv 0 a (by simp) rfl).2
    obtain ⟨PB, hB⟩ := IsF.ex (hv 1 b (by simp) rfl).1 (hv 1 b (by simp) rfl).2
    obtain ⟨PC, hC⟩ := IsF.ex (hv 2 c (by simp) rfl).1 (hv 2 c (by simp) rfl).2
    obtain ⟨PD, hD⟩ := IsF.ex (hv 3 d (by simp) rfl).1 (hv 3 d (by simp) rfl).2
    obtain ⟨qd, qk⟩ := q PA PB PC PD hA hB hC hD
    have ea := hA.eq hF.inv.nd
    have eb := hB.eq hF.inv.nd
    have ec := hC.eq hF.inv.nd
    have ed := hD.eq hF.inv.nd
    have same : (a = b ∧ b = c ∧ c = d ∧ (PA.depth : Int) = 0) ↔ (PA = PB ∧ PB = PC ∧ PC = PD ∧ PA.depth = 0) := by
      constructor
      · rintro ⟨rfl, rfl, rfl, h0⟩
        exact ⟨hA.inj hB, hB.inj hC, hC.inj hD, by omega⟩
      · rintro ⟨rfl, rfl, rfl, h0⟩
        exact ⟨by rw [ea, eb], by rw [eb, ec], by rw [ec, ed], by omega⟩
    walk_at "z1"
    walk_at "z1"
    refine z_ans (decide (a = b ∧ b = c ∧ c = d ∧ (PA.depth : Int) = 0)) (fun R hR => ?_) ?_
    · walk_at "z"
      refine z_ite (fun c1 => ?_) (fun c1 => ?_)
      · walk_at "z"
        refine z_ite (fun c2 => ?_) (fun c2 => ?_)
        · walk_at "z"
          refine z_ite (fun c3 => ?_) (fun c3 => ?_)
          · walk_at "z"
            refine z_fldR (s1 _ _ ob) T.cFaces T.aFaces_depths lkFaces_depths ?_
            walk_at "z"
            refine z_ixL (SqL.of hF1.depths) (FacesAt.depthAt hA) ?_
            walk_at "z"
            have : decide (a = b ∧ b = c ∧ c = d ∧ (PA.depth : Int) = 0) = decide ((PA.depth : Int) = 0) := by simp [c1, c2, c3]
            rw [this] at hR
            exact hR
          · have : decide (a = b ∧ b = c ∧ c = d ∧ (PA.depth : Int) = 0) = false := by simp [c3]
            rw [this] at hR
            exact hR
        · have : decide (a = b ∧ b = c ∧ c = d ∧ (PA.depth : Int) = 0) = false := by simp [c2]
          rw [this] at hR
          exact hR
      · have : decide (a = b ∧ b = c ∧ c = d ∧ (PA.depth : Int) = 0) = false := by simp [c1]
        rw [this] at hR
        exact hR
    refine z_ite (fun c1 => ?_) (fun c1 => ?_)
    · walk_at "z"
      have em : Pic.mk PA PB PC PD = PA := by unfold Pic.mk; rw [if_pos (same.mp c1)]
      have hmem := hA.mem
      have eadd : addP ps PA = ps := if_pos hmem
      rw [em, eadd] at qk
      rw [ea]
      exact qk (by have := same.mp c1; omega) _ D s1.keep hF1 (fun _ h => h) fun b h => .inl h
    have em : Pic.mk PA PB PC PD = .q PA PB PC PD := by unfold Pic.mk; rw [if_neg (fun z => c1 (same.mpr z))]
    rw [em] at qd qk
    walk_at "z"
    walk_at "zt"
    rename_i tp2 hp2 H2 s2 f2
    have hF2 := hF1.same s2
    walk_at "z"
    refine ⟨tp2, rfl, ⟨_, SqT.of f2⟩, fun L hL => ?_⟩
    refine lc_tup (K := K) (a := tp2) (xs := [V.int a, V.int b, V.int c, V.int d]) (fun i H' => H' = upd H2 L (.lst ((([PA.depth, PB.depth, PC.depth, PD.depth] : List Nat).take i).map fun n => V.int (n : Nat)))) rfl (fun i H' _ h => by rw [h]; exact (Same.new hL).tup (SqT.of f2)) ?_ ?_
    · rintro i x H' hi rfl
      have hi4 : i < 4 := by have := (List.getElem?_eq_some_iff.mp hi).1; simpa using this
      obtain ⟨z, P, hz, hP, hn, rfl⟩ : ∃ (z : Int) (P : Pic), IsF ps z P ∧ ([PA.depth, PB.depth, PC.depth, PD.depth] : List Nat)[i]? = some P.depth ∧ True ∧ x = .int z := by
        have : i = 0 ∨ i = 1 ∨ i = 2 ∨ i = 3 := by omega
        rcases this with rfl | rfl | rfl | rfl <;> simp at hi <;> subst hi
        · exact ⟨a, PA, hA, rfl, trivial, rfl⟩
        · exact ⟨b, PB, hB, rfl, trivial, rfl⟩
        · exact ⟨c, PC, hC, rfl, trivial, rfl⟩
        · exact ⟨d, PD, hD, rfl, trivial, rfl⟩
      walk_at "zw"
      walk_at "z"
      refine ⟨rfl, ?_⟩
      walk_at "z"
      have hF3 := hF2.same (Same.new (o := .lst ((([PA.depth, PB.depth, PC.depth, PD.depth] : List Nat).take i).map fun n => V.int (n : Nat))) hL)
      obtain ⟨dx3, ob3⟩ := hF3.ob
      refine z_fldR ob3 T.cFaces T.aFaces_depths lkFaces_depths ?_
      walk_at "z"
      refine z_ixL (SqL.of hF3.depths) (FacesAt.depthAt hz) ?_
      refine ⟨_, upd_same, szlt (by simp; omega), ?_⟩
      rw [upd_upd]
      have et : (([PA.depth, PB.depth, PC.depth, PD.depth] : List Nat).take (i + 1)) = (([PA.depth, PB.depth, PC.depth, PD.depth] : List Nat).take i) ++ [P.depth] := by
        rw [List.take_add_one, hP]
        rfl
      rw [et, List.map_append]
      rfl
    rintro H' rfl
    have s3 : Same H2 (upd H2 L (.lst ((([PA.depth, PB.depth, PC.depth, PD.depth] : List Nat).take [V.int a, V.int b, V.int c, V.int d].length).map fun n => V.int (n : Nat)))) := Same.new hL
    have f3 : (upd H2 L (.lst ((([PA.depth, PB.depth, PC.depth, PD.depth] : List Nat).take [V.int a, V.int b, V.int c, V.int d].length).map fun n => V.int (n : Nat)))) L = some (.lst (([(PA.depth : Int), (PB.depth : Int), (PC.depth : Int), (PD.depth : Int)] : List Int).map V.int)) := upd_same
    generalize upd H2 L _ = H3 at s3 f3 ⊢
    walk_at "z"
    refine z_max (ns := [(PA.depth : Int), (PB.depth : Int), (PC.depth : Int), (PD.depth : Int)]) (SqL.of f3) (by simp) (fun m hm hle => ?_)
    have em2 : m = (fourMax PA PB PC PD : Nat) := by
      unfold fourMax
      have h1 := hle PA.depth (by simp)
      have h2 := hle PB.depth (by simp)
      have h3 := hle PC.depth (by simp)
      have h4 := hle PD.depth (by simp)
      simp at hm
      omega
    subst em2
    have edep : (Pic.q PA PB PC PD).depth = fourMax PA PB PC PD + 1 := by simp [Pic.depth, fourMax]; omega
    walk_at "z"
    refine z_ite (fun c2 => ?_) (fun c2 => ?_)
    · walk_at "z"
      exact qd (by omega) _ (s1.trans (s2.trans s3))
    have hm12 : fourMax PA PB PC PD < 12 := by omega
    generalize hm0 : fourMax PA PB PC PD = m at *
    walk_at "z"
    refine ⟨sz1000 (by simp), fun l0 hl0 => ?_⟩
    walk_at "z"
    refine z_mulL upd_same (by decide) (by decide) (sz1000 (by simp)) (fun S hS => ?_)
    have ez : (List.replicate (Int.toNat 10) [V.int 0]).flatten = (List.range 10).map fun k => V.int (part4 m [] k + if k < 0 then term4 m PA k else 0) := by simp [part4, List.range_succ, List.replicate]
    rw [ez]
    have hS3 : H3 S = none := by
      by_cases hh : S = l0
      · subst hh; exact hl0
      · rw [upd_ne hh] at hS; exact hS
    have s4 : Same H3 (upd (upd H3 l0 (.lst [V.int 0])) S (.lst ((List.range 10).map fun k => V.int (part4 m [] k + if k < 0 then term4 m PA k else 0)))) := (Same.new hl0).set hS3
    have f4 : (upd (upd H3 l0 (.lst [V.int 0])) S (.lst ((List.range 10).map fun k => V.int (part4 m [] k + if k < 0 then term4 m PA k else 0)))) S = some (.lst ((List.range 10).map fun k => V.int (part4 m [] k + if k < 0 then term4 m PA k else 0))) := upd_same
    generalize upd (upd H3 l0 _) S _ = H4 at s4 f4 ⊢
    have sH3 : Same H H3 := s1.trans (s2.trans s3)
    have hS0 : H S = none := sH3.free hS3
    walk_at "z"
    walk_at "zt"
    rename_i tp3 hp3 H5 s5 f5
    have fS5 := s5 _ _ f4
    walk_at "z"
    refine ⟨tp3, rfl, ⟨_, SqT.of f5⟩, for_tup (K := K) (a := tp3) (xs := [V.int a, V.int b, V.int c, V.int d]) (fun i σ H' => Same H H' ∧ H' tp3 = some (.tup [V.int a, V.int b, V.int c, V.int d]) ∧ H' S = some (.lst ((List.range 10).map fun k => V.int (part4 m (([PA, PB, PC, PD] : List Pic).take i) k)))
      ∧ ∃ v w, σ = [some (.ref p), some (.int a), some (.int b), some (.int c), some (.int d), v, some (.int (m : Nat)), some (.ref S), w])
      ⟨(sH3.trans s4).trans s5, f5, ?_, _, _, rfl⟩ (fun i σ H' _ h => SqT.of h.2.1) ?_ ?_⟩
    · rw [fS5]
      simp
    · rintro i x σ H' hi ⟨t1, t2, t3, v, w, rfl⟩
      have hi4 : i < 4 := by have := (List.getElem?_eq_some_iff.mp hi).1; simpa using this
      obtain ⟨z, P, hz, hP, rfl⟩ : ∃ (z : Int) (P : Pic), IsF ps z P ∧ ([PA, PB, PC, PD] : List Pic)[i]? = some P ∧ x = .int z := by
        have : i = 0 ∨ i = 1 ∨ i = 2 ∨ i = 3 := by omega
        rcases this with rfl | rfl | rfl | rfl <;> simp at hi <;> subst hi
        · exact ⟨a, PA, hA, rfl, rfl⟩
        · exact ⟨b, PB, hB, rfl, rfl⟩
        · exact ⟨c, PC, hC, rfl, rfl⟩
        · exact ⟨d, PD, hD, rfl, rfl⟩
      have hPm : P.depth ≤ m := by
        have : i = 0 ∨ i = 1 ∨ i = 2 ∨ i = 3 := by omega
        rcases this with rfl | rfl | rfl | rfl <;> simp at hP <;> subst hP <;> rw [← hm0] <;> simp only [fourMax] <;> omega
      have et : (([PA, PB, PC, PD] : List Pic).take (i + 1)) = (([PA, PB, PC, PD] : List Pic).take i) ++ [P] := by
        rw [List.take_add_one, hP]
        rfl
      walk_at "z"
      refine ⟨_, rfl, by decide, by decide, ?_⟩
      refine for_range (fun k σ H' => Same H H' ∧ H' tp3 = some (.tup [V.int a, V.int b, V.int c, V.int d]) ∧ H' S = some (.lst ((List.range 10).map fun j => V.int (part4 m (([PA, PB, PC, PD] : List Pic).take i) j + if j < k then term4 m P j else 0)))
        ∧ ∃ w, σ = [some (.ref p), some (.int a), some (.int b), some (.int c), some (.int d), some (.int z), some (.int (m : Nat)), some (.ref S), w]) ⟨t1, t2, by rw [t3]; simp, _, rfl⟩ ?_ ?_
      · rintro k σ H6 hk ⟨u1, u2, u3, w, rfl⟩
        have hk10 : k < 10 := by omega
        have hF6 := hF.same u1
        obtain ⟨dx6, ob6⟩ := hF6.ob
        obtain ⟨ss, hs, hsl, hs3⟩ := hF6.sums
        have hlt : z.toNat < ss.length := by have := (List.getElem?_eq_some_iff.mp hz.2).1; omega
        obtain ⟨da, nfa, ha⟩ := hs3 z.toNat _ P (List.getElem?_eq_getElem hlt) hz.2
        walk_at "z"
        refine z_getL (n := k) (SqL.of u3) (by omega) (by rw [List.getElem?_map, List.getElem?_range hk10]; rfl) ?_
        walk_at "z"
        refine z_fldR ob6 T.cFaces T.aFaces_sums lkFaces_sums ?_
        walk_at "z"
        refine z_ixL (SqL.of hs) (atI_of (n := z.toNat) (v := .ref (ss[z.toNat])) (by rw [List.getElem?_map, List.getElem?_eq_getElem hlt]; rfl) (by have := hz.1; omega)) ?_
        walk_at "z"
        refine z_ixL (SqL.of ha) (atI_of (n := k) (v := .int (P.cnt (k : Int))) (by simp [Pic.sums, hk10]) (by omega)) ?_
        walk_at "z"
        refine z_fldR ob6 T.cFaces T.aFaces_depths lkFaces_depths ?_
        walk_at "z"
        refine z_ixL (SqL.of hF6.depths) (FacesAt.depthAt hz) ?_
        walk_at "z"
        refine ⟨m - P.depth, by
          have : ((m : Nat) : Int) - (P.depth : Nat) = ((m - P.depth : Nat) : Int) := by omega
          rw [this]
          rfl, by omega, ?_⟩
        have hb := cnt_bd P (k : Int)
        have hd12 : P.depth ≤ 12 := by omega
        have h24 : (4 : Int) ^ P.depth ≤ 4 ^ 12 := by
          have e1 : (4 : Int) ^ 12 = 4 ^ P.depth * 4 ^ (12 - P.depth) := by rw [← pow4_add]; congr 1; omega
          have h1 : (1 : Int) ≤ 4 ^ (12 - P.depth) := by have := pow4 (12 - P.depth); omega
          have h2 := Int.mul_le_mul_of_nonneg_left h1 (Int.le_of_lt (pow4 P.depth))
          rw [e1]; omega
        have h25 : (4 : Int) ^ (m - P.depth) ≤ 4 ^ 12 := by
          have e1 : (4 : Int) ^ 12 = 4 ^ (m - P.depth) * 4 ^ (12 - (m - P.depth)) := by rw [← pow4_add]; congr 1; omega
          have h1 : (1 : Int) ≤ 4 ^ (12 - (m - P.depth)) := by have := pow4 (12 - (m - P.depth)); omega
          have h2 := Int.mul_le_mul_of_nonneg_left h1 (Int.le_of_lt (pow4 (m - P.depth)))
          rw [e1]; omega
        have h26 := pow4 (m - P.depth)
        have h27 : (4 : Int) ^ 12 = 16777216 := by decide
        refine z_mulI (mulS (by omega) (by omega)) ?_
        walk_at "z"
        refine z_setL (n := k) u3 (by omega) (by simp; omega) ?_
        refine ⟨u1.set hS0, ?_, ?_, _, rfl⟩
        · rw [upd_ne (ne_of u2 u3 (by intro z; cases z))]
          exact u2
        · rw [upd_same, map_set]
          congr 2
          apply List.map_congr_left
          intro j hj
          by_cases hjk : j = k
          · subst hjk
            rw [if_pos rfl, if_neg (Nat.lt_irrefl _), if_pos (Nat.lt_succ_self _)]
            simp [term4]
          · rw [if_neg hjk]
            by_cases h2 : j < k
            · rw [if_pos h2, if_pos (by omega)]
            · rw [if_neg h2, if_neg (by omega)]
      · rintro σ H6 ⟨u1, u2, u3, w, rfl⟩
        refine ⟨u1, u2, ?_, _, _, rfl⟩
        rw [u3, et]
        congr 2
        apply List.map_congr_left
        intro j hj
        have hj10 : j < Int.toNat 10 := by simpa using hj
        rw [part4_add, if_pos hj10]
    · rintro σ H' ⟨t1, t2, t3, v, w, rfl⟩
      have hF6 := hF.same t1
      obtain ⟨dx6, ob6⟩ := hF6.ob
      walk_at "z"
      refine z_methR ob6 noFaces_stored ?_
      walk_at "z"
      refine ⟨sz1000 (by simp), fun t ht => ?_⟩
      walk_at "z"
      have tS : S ≠ t := ne_of_none t3 ht
      refine ⟨p, A, D, ps, .q PA PB PC PD, t, S, by rw [edep]; rfl, hF6.same (Same.new ht), ?_, ?_, ?_, ?_, ⟨by omega, fun z => c1 (same.mpr z)⟩, hl, fun H7 D' kp hF7 d1 d2 => ?_⟩
      · rw [upd_same]
        simp only [nodeOf, List.map_cons, List.map_nil]
        rw [← ea, ← eb, ← ec, ← ed]
      · rw [upd_ne tS, t3]
        congr 2
        simp only [Pic.sums, List.map_map]
        apply List.map_congr_left
        intro j hj
        simp only [Function.comp, part4, term4, Pic.cnt, List.take, List.map, List.sum_cons, List.sum_nil, List.length]
        rw [← hm0]
        simp only [fourMax]
        congr 1
        omega
      · intro z
        have hex : ∀ b, A.foot b → H b ≠ none := fun b hb z => by
          obtain ⟨ns, hn, _⟩ := hF.nodes
          obtain ⟨ss, hs, _⟩ := hF.sums
          obtain ⟨kvs, hk, _⟩ := hF.known
          obtain ⟨wh, hw, _⟩ := hF.whirl
          rcases hb with rfl | rfl | rfl | rfl | rfl
          · rw [hn] at z; cases z
          · rw [hF.depths] at z; cases z
          · rw [hs] at z; cases z
          · rw [hk] at z; cases z
          · rw [hw] at z; cases z
        exact hex S z hS0
      · intro Q hQ
        simp [Pic.parts] at hQ
        rcases hQ with rfl | rfl | rfl | rfl
        · exact hA.mem
        · exact hB.mem
        · exact hC.mem
        · exact hD.mem
      · refine qk (by omega) H7 D' ((t1.trans (Same.new ht)).keep.trans kp) hF7 d1 fun x hx => ?_
        rcases d2 x hx with z | rfl | rfl
        · exact .inl z
        · exact .inr (t1.free ht)
        · exact .inr hS0
abbrev nShop_bundle : List Str := ["self", "a", "b", "c", "d", "number", "four", "one", "thickness", "length", "face"]
abbrev pShop_bundle : List Str := ["self", "a", "b", "c", "d"]
theorem scShop_bundle : FnScope nShop_bundle pShop_bundle (defScope sShop_bundle) := ⟨rfl, rfl, rfl, by decide +kernel, rfl, by decide +kernel, by decide +kernel⟩
theorem ok_Shop_bundle {P : Program} {w : World} {K : PySem.W.Frag} {mg : Str → Option Value} {base : Heap} (T : Tx w K mg) : Fk P w K mg base 3 (He.ma K (He.ga K "Shop") "bundle") pShop_bundle (spDeed K 4 mkBundle) := by
  have GShop_began := ok_Shop_began (P := P) (w := w) (base := base) T
  have GFaces_four := ok_Faces_four (P := P) (w := w) (base := base) T
  have GShop_new_rod := ok_Shop_new_rod (P := P) (w := w) (base := base) T
  have GShop_rod := ok_Shop_rod (P := P) (w := w) (base := base) T
  refine Fk.mk' T.fShop_bundle scShop_bundle (fun _ _ _ _ _ _ us hl => match us, hl with | [_, _, _, _, _], _ => rfl) (fun vs H Q E h => spDeed_len h) (fun cdv A outer s H vs Q E hr h => ?_)
  have hu := hu_of hr
  have hu64 := hr.units
  refine ⟨_, (pss_cons (ps_setLcE (i := 6) (own := [("number", 5)]) (g := gName 5) rfl rfl takesX rfl scShop_bundle.nd rfl rfl (sw_true rfl rfl rfl (by decide +kernel)) (k_pit K (pe_tup (pa_cons (pv 1) (pa_cons (pv 2) (pa_cons (pv 3) (pa_cons (pv 4) pa_nil)))))) (blkOk_by (own := [("number", 5)]) (N := nShop_bundle) (sc := defScope sShop_bundle) (by decide +kernel)) (fun _ _ _ _ _ => pg_name (i := 5) scShop_bundle.nd rfl (Or.inl rfl)) (fun _ _ _ _ _ => pts_nil) (fun _ _ _ _ _ => (q_meth (pv 0) T.cShop T.mShop_rod GShop_rod (hr.mono (by omega)) passE (pa_cons (pv 5) pa_nil))))
  (pss_cons (ps_if (PW.pt (pw_or (pt_cmpR (k_eq K hu64) (pv 1) (pv 2) (nomark _)) (pw_or (pt_cmpR (k_eq K hu64) (pv 1) (pv 3) (nomark _)) (pw_or (pt_cmpR (k_eq K hu64) (pv 1) (pv 4) (nomark _)) (pw_or (pt_cmpR (k_eq K hu64) (pv 2) (pv 3) (nomark _)) (pw_or (pt_cmpR (k_eq K hu64) (pv 2) (pv 4) (nomark _)) (pw_or1 (pt_cmpR (k_eq K hu64) (pv 3) (pv 4) (nomark _))))))))) (pss_one (ps_raise rfl takesX (pmk_own PySem.F.excBase_ValueError T.eTwice.1 T.gTwice T.eTwice.2.1 (raises_own T.eTwice.2.2.1 T.eTwice.2.2.2) (by rfl)))) pss_nil)
  (pss_cons (ps_for (passes_of rfl) rfl (k_pil K (pv 6)) (pg_name (i := 7) scShop_bundle.nd rfl (Or.inl rfl)) (pss_one (ps_if (pt_cmpR (k_ne K hu64) (pe_slice (k_slt K) (pv 7) (po_some pe_int) po_none) (pe_slice (k_slt K) (k_ix K (pv 6) pe_int (fun _ _ => rfl)) (po_some pe_int) po_none) (nomark _)) (pss_one (ps_raise rfl takesX (pmk_own PySem.F.excBase_ValueError T.eUnlike.1 T.gUnlike T.eUnlike.2.1 (raises_own T.eUnlike.2.2.1 T.eUnlike.2.2.2) (by rfl)))) pss_nil)))
  (pss_cons (ps_par (i := 8) (j := 9) (by rfl) scShop_bundle.nd rfl rfl (by decide) rfl rfl (pa_cons (k_ix K (k_ix K (pv 6) pe_int (fun _ _ => rfl)) pe_int (fun _ _ => rfl)) (pa_cons (k_ix K (k_ix K (pv 6) pe_int (fun _ _ => rfl)) pe_int (fun _ _ => rfl)) pa_nil)) (by rfl))
  (pss_cons (ps_if (pt_cmpR op_ge (pv 8) (q_int T.iTHICKEST) (nomark _)) (pss_one (ps_raise rfl takesX (pmk_own PySem.F.excBase_ValueError T.eTooThick.1 T.gTooThick T.eTooThick.2.1 (raises_own T.eTooThick.2.2.1 T.eTooThick.2.2.2) (by rfl)))) pss_nil)
  (pss_cons (ps_expr (q_meth (pv 0) T.cShop T.mShop_began GShop_began (hr.mono (by omega)) passX (pa_cons (pe_tup (pa_cons pe_str (pa_cons (pv 1) (pa_cons (pv 2) (pa_cons (pv 3) (pa_cons (pv 4) pa_nil)))))) pa_nil)))
  (pss_cons (ps_for (passes_of rfl) rfl (k_pit K (pe_tup (pa_cons (pv 1) (pa_cons (pv 2) (pa_cons (pv 3) (pa_cons (pv 4) pa_nil)))))) (pg_name (i := 5) scShop_bundle.nd rfl (Or.inl rfl)) (pss_one (ps_expr (pe_dpop1 (k_fld K (pv 0) rfl) (pv 5) ⟨rfl, rfl, rfl, rfl⟩))))
  (pss_cons (ps_set (i := 10) scShop_bundle.nd rfl (Or.inl rfl) (q_meth (k_fld K (pv 0) rfl) T.cFaces T.mFaces_four GFaces_four (hr.mono (by omega)) passX (pa_cons (k_ix K (k_ix K (pv 6) pe_int (fun _ _ => rfl)) pe_int (fun _ _ => rfl)) (pa_cons (k_ix K (k_ix K (pv 6) pe_int (fun _ _ => rfl)) pe_int (fun _ _ => rfl)) (pa_cons (k_ix K (k_ix K (pv 6) pe_int (fun _ _ => rfl)) pe_int (fun _ _ => rfl)) (pa_cons (k_ix K (k_ix K (pv 6) pe_int (fun _ _ => rfl)) pe_int (fun _ _ => rfl)) pa_nil))))))
  (pss_cons (ps_expr (k_bm K PySem.F.plainAttrs_list PySem.F.slot_list_append PySem.F.type_list_append mt_append (k_fld K (pv 0) rfl) (pa_cons (pv 10) pa_nil)))
  (pss_one (ps_ret (q_meth (pv 0) T.cShop T.mShop_new_rod GShop_new_rod (hr.mono (by omega)) passX (pa_cons (pv 10) (pa_cons (pe_op (k_add K) (pv 8) pe_int) (pa_cons (pv 9) pa_nil))))))))))))))), ?_⟩
  try dsimp only [cxOf]
  obtain ⟨x, l0, dd, rfl, hl0, hmk, h, hk, q⟩ := h
  obtain ⟨a, b, c, d, rfl⟩ := four4 hl0
  obtain rfl := Option.some.inj hmk
  have hst := h.ok _ (.inl rfl)
  have hdl := hst.dl
  have hrl := hst.rl
  have hpl := h.pl
  have hbl := hst.bl
  walk_at "z"
  walk_at "zt"
  rename_i tt ntt H1 s1 f1
  refine ⟨tt, rfl, ⟨_, SqT.of f1⟩, fun L hL => ?_⟩
  refine lc_tup (K := K) (a := tt) (xs := [a, b, c, d].map V.int) (fun i H' => Same H1 H' ∧ ∃ ts : List Addr, H' L = some (.lst (ts.map V.ref)) ∧ ts.length = i ∧ ∀ (j : Nat) (t : Addr) (n : Int), ts[j]? = some t → [a, b, c, d][j]? = some n → ∃ r, findR x.now.rods n = some r ∧ H' t = some (.tup [.int r.f, .int r.t, .int r.l]))
    ⟨Same.new hL, [], upd_same, rfl, fun j t n e => by simp at e⟩ (fun i H' _ h => SqT.of (h.1 _ _ f1)) ?_ ?_
  · rintro i v H' hi ⟨s2, ts, f2, hts, hal⟩
    obtain ⟨n, hn, rfl⟩ : ∃ n, [a, b, c, d][i]? = some n ∧ v = .int n := by
      rw [List.getElem?_map] at hi
      cases e : [a, b, c, d][i]? with
      | none => rw [e] at hi; cases hi
      | some m => rw [e] at hi; exact ⟨m, rfl, (Option.some.inj hi).symm⟩
    have hi4 : i < 4 := by have := (List.getElem?_eq_some_iff.mp hn).1; simpa using this
    have s12 := s1.trans s2
    walk_at "zw"
    walk_at "z"
    refine ⟨rfl, ?_⟩
    walk_at "z"
    refine z_methR (s12 _ _ h.S.ob) noS_rod ?_
    walk_at "z"
    refine ⟨x.s, x.p, x.B, x.now, n, rfl, h.S.rd.same s12, fun no => q.1 "NoRod" (refuse_none ?_) _ s12, fun r t hf ht => ?_⟩
    · match i, hi4, hn with
      | 0, _, hn => exact .inl (by rw [Option.some.inj hn]; exact no)
      | 1, _, hn => exact .inr (.inl (by rw [Option.some.inj hn]; exact no))
      | 2, _, hn => exact .inr (.inr (.inl (by rw [Option.some.inj hn]; exact no)))
      | 3, _, hn => exact .inr (.inr (.inr (by rw [Option.some.inj hn]; exact no)))
    · refine ⟨_, f2, szlt (by rw [List.length_map]; omega), s2.set hL, ts ++ [t], by rw [upd_same, List.map_append]; rfl, by simp [hts], fun j t' n' e1 e2 => ?_⟩
      by_cases hj : j < ts.length
      · rw [List.getElem?_append_left hj] at e1
        obtain ⟨r', g1, g2⟩ := hal j t' n' e1 e2
        exact ⟨r', g1, tup_upd f2 _ _ g2⟩
      · have hj2 : j = i := by
          have := (List.getElem?_eq_some_iff.mp e1).1
          simp at this; omega
        subst hj2
        rw [List.getElem?_append_right (by omega), hts, Nat.sub_self] at e1
        obtain rfl : t = t' := by simpa using e1
        rw [hn] at e2
        obtain rfl := Option.some.inj e2
        exact ⟨r, hf, tup_upd f2 _ _ ht⟩
  · rintro H2 ⟨s2, ts, f2, hts, hal⟩
    obtain ⟨ta, tb, tc, td, rfl⟩ : ∃ ta tb tc td, ts = [ta, tb, tc, td] := by
      match ts, hts with
      | [ta, tb, tc, td], _ => exact ⟨ta, tb, tc, td, rfl⟩
    obtain ⟨ra, fa, ga⟩ := hal 0 ta a rfl rfl
    obtain ⟨rb, fb, gb⟩ := hal 1 tb b rfl rfl
    obtain ⟨rc, fc, gc⟩ := hal 2 tc c rfl rfl
    obtain ⟨rd, fd, gd⟩ := hal 3 td d rfl rfl
    have s02 := s1.trans s2
    have f2' : H2 L = some (.lst [.ref ta, .ref tb, .ref tc, .ref td]) := f2
    have twice : (a = b ∨ a = c ∨ a = d ∨ b = c ∨ b = d ∨ c = d) → refuse x.ps x.now (.bundle a b c d) = some ("Twice" : Str) := fun z => by
      unfold refuse; simp only; rw [fa, fb, fc, fd]; simp only; rw [if_pos z]
    walk_at "z"
    refine z_ite (fun e1 => ?_) (fun e1 => ?_)
    · walk_at "z"
      exact q.1 "Twice" (twice (.inl e1)) _ s02
    walk_at "z"
    refine z_ite (fun e2 => ?_) (fun e2 => ?_)
    · walk_at "z"
      exact q.1 "Twice" (twice (.inr (.inl e2))) _ s02
    walk_at "z"
    refine z_ite (fun e3 => ?_) (fun e3 => ?_)
    · walk_at "z"
      exact q.1 "Twice" (twice (.inr (.inr (.inl e3)))) _ s02
    walk_at "z"
    refine z_ite (fun e4 => ?_) (fun e4 => ?_)
    · walk_at "z"
      exact q.1 "Twice" (twice (.inr (.inr (.inr (.inl e4))))) _ s02
    walk_at "z"
    refine z_ite (fun e5 => ?_) (fun e5 => ?_)
    · walk_at "z"
      exact q.1 "Twice" (twice (.inr (.inr (.inr (.inr (.inl e5)))))) _ s02
    walk_at "z"
    refine z_ite (fun e6 => ?_) (fun e6 => ?_)
    · walk_at "z"
      exact q.1 "Twice" (twice (.inr (.inr (.inr (.inr (.inr e6)))))) _ s02
    have ntw : ¬ (a = b ∨ a = c ∨ a = d ∨ b = c ∨ b = d ∨ c = d) := by simp only [not_or]; exact ⟨e1, e2, e3, e4, e5, e6⟩
    have unlike : ¬ ((rb.t = ra.t ∧ rb.l = ra.l) ∧ (rc.t = ra.t ∧ rc.l = ra.l) ∧ rd.t = ra.t ∧ rd.l = ra.l) → refuse x.ps x.now (.bundle a b c d) = some ("Unlike" : Str) := fun z => by
      unfold refuse; simp only; rw [fa, fb, fc, fd]; simp only; rw [if_neg ntw, if_pos z]
    walk_at "z"
    refine ⟨L, rfl, ⟨_, SqL.of f2'⟩, ?_⟩
    refine for_list (K := K) (a := L) (xs := [.ref ta, .ref tb, .ref tc, .ref td]) (fun i σ H' => Same H2 H' ∧ (∀ (j : Nat) (r : Rod), j < i → [ra, rb, rc, rd][j]? = some r → r.t = ra.t ∧ r.l = ra.l) ∧ ∃ y6 y7 y8 y9 y10, σ = [some (.ref x.s), some (.int a), some (.int b), some (.int c), some (.int d), y6, some (.ref L), y7, y8, y9, y10])
      ⟨Same.refl _, fun j r hj => by omega, _, _, _, _, _, rfl⟩ (fun i σ H' _ h => SqL.of (h.1 _ _ f2')) ?_ ?_
    · rintro i v σ H' hi ⟨s3, hall, y6, y7, y8, y9, y10, rfl⟩
      have hi4 : i < 4 := by have := (List.getElem?_eq_some_iff.mp hi).1; simpa using this
      obtain ⟨t, r, rfl, hr, ht⟩ : ∃ t r, v = .ref t ∧ [ra, rb, rc, rd][i]? = some r ∧ H2 t = some (.tup [.int r.f, .int r.t, .int r.l]) := by
        match i, hi4, hi with
        | 0, _, hi => exact ⟨ta, ra, (Option.some.inj hi).symm, rfl, ga⟩
        | 1, _, hi => exact ⟨tb, rb, (Option.some.inj hi).symm, rfl, gb⟩
        | 2, _, hi => exact ⟨tc, rc, (Option.some.inj hi).symm, rfl, gc⟩
        | 3, _, hi => exact ⟨td, rd, (Option.some.inj hi).symm, rfl, gd⟩
      walk_at "z"
      refine z_slT (s3 _ _ ht) (cut_from _ 1) ?_
      intro p4 H4 s4 f4
      walk_at "z"
      refine z_ixL (SqL.of (s4 _ _ (s3 _ _ f2'))) (atI_of (n := 0) rfl rfl) ?_
      walk_at "z"
      refine z_slT (s4 _ _ (s3 _ _ ga)) (cut_from _ 1) ?_
      intro p5 H5 s5 f5
      refine z_neDv (d := .tuple [.int r.t, .int r.l]) (e := .tuple [.int ra.t, .int ra.l]) (.tup (s5 _ _ f4) (.cons (.int _) (.cons (.int _) .nil))) (.tup f5 (.cons (.int _) (.cons (.int _) .nil))) rfl rfl ?_
      have ee : PyData.eqv (.tuple [.int r.t, .int r.l]) (.tuple [.int ra.t, .int ra.l]) = decide (r.t = ra.t ∧ r.l = ra.l) := by
        simp [PyData.eqv, PyData.eqvAll]
        rfl
      rw [ee]
      walk_at "z"
      refine z_iteN (fun e7 => ?_) (fun e7 => ?_)
      · walk_at "z"
        refine q.1 "Unlike" (unlike fun z => e7 ?_) _ (s02.trans (s3.trans (s4.trans s5)))
        match i, hi4, hr with
        | 0, _, hr => obtain rfl := Option.some.inj hr; exact ⟨rfl, rfl⟩
        | 1, _, hr => obtain rfl := Option.some.inj hr; exact z.1
        | 2, _, hr => obtain rfl := Option.some.inj hr; exact z.2.1
        | 3, _, hr => obtain rfl := Option.some.inj hr; exact z.2.2
      · walk_at "z"
        refine ⟨s3.trans (s4.trans s5), fun j r' hj hr' => ?_, _, _, _, _, _, rfl⟩
        by_cases hji : j = i
        · subst hji
          rw [hr] at hr'
          obtain rfl := Option.some.inj hr'
          exact e7
        · exact hall j r' (by omega) hr'
    · rintro σ H3 ⟨s3, hall, y6, y7, y8, y9, y10, rfl⟩
      have ub := hall 1 rb (by simp) rfl
      have uc := hall 2 rc (by simp) rfl
      have ud := hall 3 rd (by simp) rfl
      have lik : ¬ ¬ ((rb.t = ra.t ∧ rb.l = ra.l) ∧ (rc.t = ra.t ∧ rc.l = ra.l) ∧ rd.t = ra.t ∧ rd.l = ra.l) := fun z => z ⟨ub, uc, ud⟩
      have f3' := s3 _ _ f2'
      have s03 := s02.trans s3
      walk_at "z"
      refine z_ixL (SqL.of f3') (atI_of (n := 0) rfl rfl) ?_
      walk_at "z"
      refine z_ixT (SqT.of (s3 _ _ ga)) (atI_of (n := 1) rfl rfl) ?_
      walk_at "z"
      refine z_ixL (SqL.of f3') (atI_of (n := 0) rfl rfl) ?_
      walk_at "z"
      refine z_ixT (SqT.of (s3 _ _ ga)) (atI_of (n := 2) rfl rfl) ?_
      walk_at "z"
      refine z_ite (fun e8 => ?_) (fun e8 => ?_)
      · walk_at "z"
        exact q.1 "TooThick" (by unfold refuse; simp only; rw [fa, fb, fc, fd]; simp only; rw [if_neg ntw, if_neg lik, if_pos e8]) _ s03
      have hr : refuse x.ps x.now (.bundle a b c d) = none := by unfold refuse; simp only; rw [fa, fb, fc, fd]; simp only; rw [if_neg ntw, if_neg lik, if_neg e8]
      have h3 := h.same s03
      have q3 := q.same s03
      walk_at "z"
      refine z_methR h3.S.ob noS_began ?_
      walk_at "z"
      walk_at "zt"
      rename_i dt ndt H4 s4 f4
      walk_at "z"
      refine ⟨x.s, x.p, x.B, x.now, x.past, x.ahead, dt, .bundle a b c d, rfl, h3.S.same s4, f4, by omega, by omega, fun H5 B5 hS5 kp5 lv5 m5 => ?_⟩
      have m5' : ∀ b ∈ B5.muts x.s, b ∈ x.B.muts x.s ∨ H3 b = none := fun b hb => (m5 b hb).imp id s4.free
      have kpH : Keep (fun b => b ∈ x.B.muts x.s) H3 H5 := s4.keep.trans kp5
      have lvH : Live H3 H5 := s4.live.trans lv5
      have tk5 : ∀ t xs, H3 t = some (.tup xs) → H5 t = some (.tup xs) := fun t xs e => kpH _ _ e fun z => by
        obtain ⟨o, e2, nt⟩ := h3.S.there _ z
        rw [e] at e2; exact nt _ (Option.some.inj e2).symm
      have nL : L ∉ x.B.muts x.s := fun z => by
        obtain ⟨o, e2, _⟩ := h.S.there _ z
        rw [s1.free hL] at e2; cases e2
      have fL5 : H5 L = some (.lst [.ref ta, .ref tb, .ref tc, .ref td]) := kpH _ _ f3' nL
      have nL5 : L ∉ B5.muts x.s := fun z => (m5' L z).elim nL fun y => by rw [f3'] at y; cases y
      walk_at "z"
      walk_at "zt"
      rename_i nt nnt H6 s6 f6
      refine ⟨nt, rfl, ⟨_, SqT.of f6⟩, ?_⟩
      refine for_tup (K := K) (a := nt) (xs := [a, b, c, d].map V.int) (fun i σ H' => ShopAt (He.ga K "Shop") H' x.s x.p B5 { { x.now with deeds := x.now.deeds ++ [Deed.bundle a b c d] } with rods := dropAll x.now.rods ([a, b, c, d].take i) } (x.past ++ [x.now]) [] ∧ Keep (fun b => b ∈ x.B.muts x.s) H3 H' ∧ Live H3 H' ∧
          (∀ t xs, H6 t = some (.tup xs) → H' t = some (.tup xs)) ∧ H' L = some (.lst [.ref ta, .ref tb, .ref tc, .ref td]) ∧ ∃ y6 y7 y10, σ = [some (.ref x.s), some (.int a), some (.int b), some (.int c), some (.int d), y6, some (.ref L), y7, some (.int ra.t), some (.int ra.l), y10])
        ⟨hS5.same s6, kpH.trans s6.keep, lvH.trans s6.live, fun t xs e => e, s6 _ _ fL5, _, _, _, rfl⟩ (fun i σ H' _ h => SqT.of (h.2.2.2.1 _ _ f6)) ?_ ?_
      · rintro i v σ H' hi ⟨hS, kp, lv, tk, fL, y6, y7, y10, rfl⟩
        obtain ⟨n, hn, rfl⟩ : ∃ n, [a, b, c, d][i]? = some n ∧ v = .int n := by
          rw [List.getElem?_map] at hi
          cases e : [a, b, c, d][i]? with
          | none => rw [e] at hi; cases hi
          | some m => rw [e] at hi; exact ⟨m, rfl, (Option.some.inj hi).symm⟩
        have hi4 : i < 4 := by have := (List.getElem?_eq_some_iff.mp hn).1; simpa using this
        have hnin : n ∉ [a, b, c, d].take i ∧ (findR x.now.rods n).isSome = true := by
          match i, hi4, hn with
          | 0, _, hn => obtain rfl := Option.some.inj hn; exact ⟨by simp, by rw [fa]; rfl⟩
          | 1, _, hn => obtain rfl := Option.some.inj hn; exact ⟨by simp; omega, by rw [fb]; rfl⟩
          | 2, _, hn => obtain rfl := Option.some.inj hn; exact ⟨by simp; omega, by rw [fc]; rfl⟩
          | 3, _, hn => obtain rfl := Option.some.inj hn; exact ⟨by simp; omega, by rw [fd]; rfl⟩
        obtain ⟨kvs, hkv, hrs⟩ := hS.cur.d
        have hfn : findR (dropAll x.now.rods ([a, b, c, d].take i)) n = findR x.now.rods n := dropAll_find (rs := []) hnin.1
        walk_at "z"
        refine z_fldR hS.ob T.cShop T.aShop_standing lkS_standing ?_
        refine ⟨B5.q.d, rfl, .inl ⟨kvs, .inl hkv⟩, ?_⟩
        walk_at "z"
        rcases hrs.find n with ⟨r3, a3, g1, g2, g3, g4⟩ | ⟨g1, g2⟩
        · refine ⟨kvs, .inl n, .ref a3, hkv, rfl, g2, ?_⟩
          have hS3 := hS.setRods (hrs.drop n)
          have e : dropR (dropAll x.now.rods ([a, b, c, d].take i)) n = dropAll x.now.rods ([a, b, c, d].take (i + 1)) := by
            rw [List.take_add_one, hn]
            simp [dropAll, List.foldl_append]
          simp only [e] at hS3
          have nL2 : L ≠ B5.q.d := fun z => nL5 (by rw [z]; simp [SB.muts, SP.muts])
          exact ⟨hS3, kp.setM (m5' _ (by simp [SB.muts, SP.muts])), lv.set, fun t xs e => tup_stay hkv (fun _ z => by cases z) _ _ (tk t xs e), by rw [upd_ne nL2]; exact fL, _, _, _, rfl⟩
        · have g1' : findR (dropAll x.now.rods ([a, b, c, d].take i)) n = none := g1
          rw [hfn] at g1'
          rw [g1'] at hnin
          cases hnin.2
      · rintro σ H7 ⟨hS, kp, lv, tk, fL, y6, y7, y10, rfl⟩
        have tka : ∀ t xs, H3 t = some (.tup xs) → H7 t = some (.tup xs) := fun t xs e => tk _ _ (s6 _ _ (tk5 _ _ e))
        obtain ⟨⟨⟨PA, hPA, da⟩, tha, la, capa, _⟩, _⟩ := hst.rod ra (findR_n fa).2
        obtain ⟨⟨⟨PB, hPB, db⟩, thb, _⟩, _⟩ := hst.rod rb (findR_n fb).2
        obtain ⟨⟨⟨PC, hPC, dc⟩, thc, _⟩, _⟩ := hst.rod rc (findR_n fc).2
        obtain ⟨⟨⟨PD, hPD, dd4⟩, thd, _⟩, _⟩ := hst.rod rd (findR_n fd).2
        have hdep := mk_depth_le PA PB PC PD (t := ra.t.toNat) (by omega) (by omega) (by omega) (by omega)
        have h3' : Wd K H3 x.p x.A x.D x.ps x.bs x.s x.B x.now x.past x.ahead x.k := h3
        have hF7 := Ws.at.facesKeep (x := x) h3 kp
        have ap7 := Ws.at.apM (x := x) h3 m5'
        obtain ⟨dxf, obf⟩ := hF7.ob
        have hlen := h.len
        walk_at "z"
        refine z_fldR hS.ob T.cShop T.aShop_faces lkS_faces ?_
        refine z_methR obf noFaces_four ?_
        walk_at "z"
        refine z_ixL (SqL.of fL) (atI_of (n := 0) rfl rfl) ?_
        walk_at "z"
        refine z_ixT (SqT.of (tka _ _ (s3 _ _ ga))) (atI_of (n := 0) rfl rfl) ?_
        walk_at "z"
        refine z_ixL (SqL.of fL) (atI_of (n := 1) rfl rfl) ?_
        walk_at "z"
        refine z_ixT (SqT.of (tka _ _ (s3 _ _ gb))) (atI_of (n := 0) rfl rfl) ?_
        walk_at "z"
        refine z_ixL (SqL.of fL) (atI_of (n := 2) rfl rfl) ?_
        walk_at "z"
        refine z_ixT (SqT.of (tka _ _ (s3 _ _ gc))) (atI_of (n := 0) rfl rfl) ?_
        walk_at "z"
        refine z_ixL (SqL.of fL) (atI_of (n := 3) rfl rfl) ?_
        walk_at "z"
        refine z_ixT (SqT.of (tka _ _ (s3 _ _ gd))) (atI_of (n := 0) rfl rfl) ?_
        walk_at "z"
        refine ⟨x.p, x.A, x.D, x.ps, ra.f, rb.f, rc.f, rd.f, rfl, hF7, by omega, fun no => absurd ⟨⟨hPA.1, hPA.lt⟩, ⟨hPB.1, hPB.lt⟩, ⟨hPC.1, hPC.lt⟩, hPD.1, hPD.lt⟩ no, fun PA2 PB2 PC2 PD2 hA2 hB2 hC2 hD2 => ?_⟩
        obtain rfl := hA2.inj hPA
        obtain rfl := hB2.inj hPB
        obtain rfl := hC2.inj hPC
        obtain rfl := hD2.inj hPD
        refine ⟨fun deep => absurd hdep (by omega), fun _ H8 D8 kp8 hF8 d1 d2 => ?_⟩
        have hB8 : Base (x.bs ++ [Pic.mk PA2 PB2 PC2 PD2]) (addP x.ps (Pic.mk PA2 PB2 PC2 PD2)) := (h.base.mono fun B hB => List.mem_append_left _ hB).add ⟨_, by simp, 0, by decide, (turn_zero _).symm⟩
        have hM8 : Pic.mk PA2 PB2 PC2 PD2 ∈ addP x.ps (Pic.mk PA2 PB2 PC2 PD2) := addP_mem _ _
        obtain ⟨rs, ers⟩ := addP_ext x.ps (Pic.mk PA2 PB2 PC2 PD2)
        rw [ers] at hF8 hB8 hM8 ⊢
        have hS8 := shopKeep hS hF7 ap7 kp8
        have ap8 := apKeep hS ap7 d2
        have lv8 := lv.trans (liveF hF8 kp8)
        have kp8' : Keep x.foot H3 H8 := keepF (kp.mono fun _ z => .inr z) kp8
        obtain ⟨_, _, _, _, _, hb8, _⟩ := id hS8.cur
        walk_at "z"
        refine z_fldR hS8.ob T.cShop T.aShop_bundles lkS_bundles ?_
        refine z_tyL (SqL.of hb8) ?_
        walk_at "z"
        refine z_app hb8 (by rw [List.length_map]; exact szlt (by dsimp only; omega)) ?_
        have hS9 := hS8.setBun (l := x.now.bun ++ [((ix (x.ps ++ rs) (Pic.mk PA2 PB2 PC2 PD2) : Nat) : Int)])
        have e9 : (x.now.bun ++ [((ix (x.ps ++ rs) (Pic.mk PA2 PB2 PC2 PD2) : Nat) : Int)]).map V.int = x.now.bun.map V.int ++ [.int ((ix (x.ps ++ rs) (Pic.mk PA2 PB2 PC2 PD2) : Nat) : Int)] := by rw [List.map_append]; rfl
        rw [e9] at hS9
        have m5f : ∀ b, b ∈ B5.muts x.s → x.foot b ∨ H3 b = none := fun b hb => (m5' b hb).imp (fun z => .inr z) id
        have kp9 : Keep x.foot H3 (upd H8 B5.q.b (.lst (x.now.bun.map V.int ++ [.int ((ix (x.ps ++ rs) (Pic.mk PA2 PB2 PC2 PD2) : Nat) : Int)]))) := kp8'.setM (m5f _ (by simp [SB.muts, SP.muts]))
        have lv9 : Live H3 (upd H8 B5.q.b (.lst (x.now.bun.map V.int ++ [.int ((ix (x.ps ++ rs) (Pic.mk PA2 PB2 PC2 PD2) : Nat) : Int)]))) := lv8.set
        have hF9 : FacesAt (He.ga K "Faces") (upd H8 B5.q.b (.lst (x.now.bun.map V.int ++ [.int ((ix (x.ps ++ rs) (Pic.mk PA2 PB2 PC2 PD2) : Nat) : Int)]))) x.p x.A D8 (x.ps ++ rs) := hF8.keep fun b o hb e => by
          rw [upd_ne (fun z => ap8 b (by rw [z]; simp [SB.muts, SP.muts]) hb)]; exact e
        generalize upd H8 B5.q.b _ = H9 at hS9 kp9 lv9 hF9 ⊢
        walk_at "z"
        refine z_methR hS9.ob noS_new_rod ?_
        walk_at "z"
        have hfr := (hst.ro.dropAll (ns := [a, b, c, d].take ([a, b, c, d].map V.int).length))
        refine ⟨x.s, x.p, B5, _, _, _, _, _, _, rfl, hS9, hfr.fresh, by have := hfr.len; dsimp only; omega, fun HA hSA kpA lvA => ?_⟩
        have epa : picF (x.ps ++ rs) ra.f = PA2 := picF_of hPA.app
        have epb : picF (x.ps ++ rs) rb.f = PB2 := picF_of hPB.app
        have epc : picF (x.ps ++ rs) rc.f = PC2 := picF_of hPC.app
        have epd : picF (x.ps ++ rs) rd.f = PD2 := picF_of hPD.app
        have e : eff (x.ps ++ rs) x.now (.bundle a b c d) = { x.now with deeds := x.now.deeds ++ [.bundle a b c d], rods := dropAll x.now.rods [a, b, c, d] ++ [⟨x.now.com, ((ix (x.ps ++ rs) (Pic.mk PA2 PB2 PC2 PD2) : Nat) : Int), ra.t + 1, ra.l⟩], com := x.now.com + 1, bun := x.now.bun ++ [((ix (x.ps ++ rs) (Pic.mk PA2 PB2 PC2 PD2) : Nat) : Int)] } := by
          simp only [eff, findR_some fa, findR_some fb, findR_some fc, findR_some fd, epa, epb, epc, epd]
          rfl
        refine q3.fin h3 hk hr (B' := B5) (cs := x.bs ++ [Pic.mk PA2 PB2 PC2 PD2]) (hF9.keep fun b o hb e => kpA b o e fun z => ap8 b z hb) hB8 (by simp) (by unfold hasP; simp only [findR_some fa, findR_some fb, findR_some fc, findR_some fd, epa, epb, epc, epd]; exact hM8) (by rw [e]; exact hSA) ap8 (keepM kp9 m5f kpA) (lv9.trans lvA) (fun b hb => (d2 b hb).imp id fun z => lv b z) m5'
def v4 (r : Int × Int × Int × Int) : List V := [.int r.1, .int r.2.1, .int r.2.2.1, .int r.2.2.2]
def spArr (K : PySem.W.Frag) : Sp := fun vs H Q _ => ∃ (t : Int) (l : Addr) (x : Int × Int × Int × Int), vs = [.int t, .ref l] ∧ SqL K H l (v4 x) ∧ (∀ H' q, Same H H' → H' q = some (.tup (v4 (arr t x))) → Q (.ref q) H')
abbrev narranged : List Str := ["turning", "four", "a", "b", "c", "d", "step"]
abbrev parranged : List Str := ["turning", "four"]
theorem scarranged : FnScope narranged parranged (defScope sarranged) := ⟨rfl, rfl, rfl, by decide +kernel, rfl, by decide +kernel, by decide +kernel⟩
theorem ok_arranged {P : Program} {w : World} {K : PySem.W.Frag} {mg : Str → Option Value} {base : Heap} (T : Tx w K mg) : Fk P w K mg base 1 (He.ga K "arranged") parranged (spArr K) := by
  refine Fk.mk' T.farranged scarranged (fun _ _ _ _ _ _ us hl => match us, hl with | [_, _], _ => rfl) (by
  intro vs H Q E h
  repeat (first | (obtain ⟨h1, _⟩ := h; subst h1; rfl) | (obtain ⟨_, h⟩ := h))) (fun cdv A outer s H vs Q E hr h => ?_)
  have hu := hu_of hr
  have hu64 := hr.units
  refine ⟨_, (pss_cons (ps_asg (pv 1) (k_pgl (n := 4) K rfl (pgs_cons (pg_name (i := 2) scarranged.nd rfl (Or.inl rfl)) (pgs_cons (pg_name (i := 3) scarranged.nd rfl (Or.inl rfl)) (pgs_cons (pg_name (i := 4) scarranged.nd rfl (Or.inl rfl)) (pgs_cons (pg_name (i := 5) scarranged.nd rfl (Or.inl rfl)) pgs_nil))))))
  (pss_cons (ps_if (pt_cmpR op_gt (pv 0) pe_int (nomark _)) (pss_one (ps_asg (pe_tup (pa_cons (pv 3) (pa_cons (pv 2) (pa_cons (pv 5) (pa_cons (pv 4) pa_nil))))) (k_pgt (n := 4) K rfl (pgs_cons (pg_name (i := 2) scarranged.nd rfl (Or.inl rfl)) (pgs_cons (pg_name (i := 3) scarranged.nd rfl (Or.inl rfl)) (pgs_cons (pg_name (i := 4) scarranged.nd rfl (Or.inl rfl)) (pgs_cons (pg_name (i := 5) scarranged.nd rfl (Or.inl rfl)) pgs_nil))))))) pss_nil)
  (pss_cons (ps_for (passes_of rfl) rfl (pi_range1 (by rfl) T.urange (pa_cons (pe_op op_mod (pv 0) pe_int) pa_nil)) (pg_name (i := 6) scarranged.nd rfl (Or.inl rfl)) (pss_one (ps_asg (pe_tup (pa_cons (pv 4) (pa_cons (pv 2) (pa_cons (pv 5) (pa_cons (pv 3) pa_nil))))) (k_pgt (n := 4) K rfl (pgs_cons (pg_name (i := 2) scarranged.nd rfl (Or.inl rfl)) (pgs_cons (pg_name (i := 3) scarranged.nd rfl (Or.inl rfl)) (pgs_cons (pg_name (i := 4) scarranged.nd rfl (Or.inl rfl)) (pgs_cons (pg_name (i := 5) scarranged.nd rfl (Or.inl rfl)) pgs_nil))))))))
  (pss_one (ps_ret (pe_tup (pa_cons (pv 2) (pa_cons (pv 3) (pa_cons (pv 4) (pa_cons (pv 5) pa_nil)))))))))), ?_⟩
  try dsimp only [cxOf]
  obtain ⟨t, l, x, rfl, hl, q⟩ := h
  obtain ⟨a, b, c, d⟩ := x
  have h0 : 0 ≤ t % 4 := Int.emod_nonneg _ (by decide)
  have h4 : t % 4 < 4 := Int.emod_lt_of_pos _ (by decide)
  walk_at "z"
  refine z_gLst hl rfl ?_
  unfold v4
  walk_at "z"
  refine z_ite (fun c0 => ?_) (fun c0 => ?_)
  · walk_at "z"
    walk_at "zt"
    rename_i q1 n1 H1 s1 f1
    walk_at "z"
    refine z_gTup (SqT.of f1) rfl ?_
    walk_at "z"
    refine z_I (by decide) ?_
    walk_at "z"
    refine ⟨_, rfl, by omega, by omega, ?_⟩
    refine for_range (fun i σ H' => Same H H' ∧ ∃ st, σ = [some (.int t), some (.ref l), some (.int (rots4 i (b, a, d, c)).1), some (.int (rots4 i (b, a, d, c)).2.1), some (.int (rots4 i (b, a, d, c)).2.2.1), some (.int (rots4 i (b, a, d, c)).2.2.2), st]) ⟨s1, none, rfl⟩ ?_ ?_
    · rintro i σ H' hi ⟨s2, st, rfl⟩
      walk_at "z"
      walk_at "zt"
      rename_i q2 n2 H2 s3 f3
      walk_at "z"
      refine z_gTup (SqT.of f3) rfl ?_
      walk_at "z"
      exact ⟨s2.trans s3, _, rfl⟩
    · rintro σ H' ⟨s2, st, rfl⟩
      walk_at "z"
      walk_at "zt"
      rename_i q2 n2 H2 s3 f3
      refine q _ _ (s2.trans s3) ?_
      rw [f3]
      unfold v4 arr
      rw [if_pos c0]
  · walk_at "z"
    refine z_I (by decide) ?_
    walk_at "z"
    refine ⟨_, rfl, by omega, by omega, ?_⟩
    refine for_range (fun i σ H' => Same H H' ∧ ∃ st, σ = [some (.int t), some (.ref l), some (.int (rots4 i (a, b, c, d)).1), some (.int (rots4 i (a, b, c, d)).2.1), some (.int (rots4 i (a, b, c, d)).2.2.1), some (.int (rots4 i (a, b, c, d)).2.2.2), st]) ⟨Same.refl _, none, rfl⟩ ?_ ?_
    · rintro i σ H' hi ⟨s2, st, rfl⟩
      walk_at "z"
      walk_at "zt"
      rename_i q2 n2 H2 s3 f3
      walk_at "z"
      refine z_gTup (SqT.of f3) rfl ?_
      walk_at "z"
      exact ⟨s2.trans s3, _, rfl⟩
    · rintro σ H' ⟨s2, st, rfl⟩
      walk_at "z"
      walk_at "zt"
      rename_i q2 n2 H2 s3 f3
      refine q _ _ (s2.trans s3) ?_
      rw [f3]
      unfold v4 arr
      rw [if_neg c0]
def spWhirled (C : Addr) (n : Nat) : Sp := fun vs H Q _ => ∃ p A D ps bs, ∃ f t : Int, ∃ P, vs = [.ref p, .int f, .int t] ∧ FacesAt C H p A D ps ∧ IsF ps f P ∧ (0 ≤ t ∧ t < 8) ∧ P.depth < n ∧ Base bs ps ∧ bs.length ≤ 10000 ∧
  AfterX C H p A D bs ps fun ps' H' => P.turn t ∈ ps' → Q (.int (ix ps' (P.turn t) : Nat)) H'
abbrev nFaces_whirled : List Str := ["self", "face", "turning", "part", "parts", "a", "b", "c", "d"]
abbrev pFaces_whirled : List Str := ["self", "face", "turning"]
theorem scFaces_whirled : FnScope nFaces_whirled pFaces_whirled (defScope sFaces_whirled) := ⟨rfl, rfl, rfl, by decide +kernel, rfl, by decide +kernel, by decide +kernel⟩
theorem ok_Faces_whirled {P : Program} {w : World} {K : PySem.W.Frag} {mg : Str → Option Value} {base : Heap} (T : Tx w K mg) : ∀ n : Nat, Fk P w K mg base (2 + n) (He.ma K (He.ga K "Faces") "whirled") pFaces_whirled (spWhirled (He.ga K "Faces") n)
  | 0 => (Fk.no T.fFaces_whirled (fun _ _ _ _ _ _ us hl => match us, hl with | [_, _, _], _ => rfl) (fun vs H Q E ⟨_, _, _, _, _, _, _, _, _, _, _, _, h, _⟩ => absurd h (Nat.not_lt_zero _))).up (by omega)
  | n + 1 => by
      have GR := ok_Faces_whirled (P := P) (w := w) (base := base) T n
      have Garranged := ok_arranged (P := P) (w := w) (base := base) T
      have GFaces_four := ok_Faces_four (P := P) (w := w) (base := base) T
      refine Fk.mk' (k := 2 + n) T.fFaces_whirled scFaces_whirled (fun _ _ _ _ _ _ us hl => match us, hl with | [_, _, _], _ => rfl) (by
        intro vs H Q E h
        repeat (first | (obtain ⟨h1, _⟩ := h; subst h1; rfl) | (obtain ⟨_, h⟩ := h))) (fun cdv A outer s H vs Q E hr h => ?_)
      have hu := hu_of hr
      have hu64 := hr.units
      refine ⟨_, (pss_cons (ps_if (PW.pt (pw_or (pt_cmpR (k_eq K hu64) (k_ix K (k_fld K (pv 0) rfl) (pv 1) (fun _ _ => rfl)) pe_int (nomark _)) (pw_or1 (pt_cmpR (k_eq K hu64) (pv 2) pe_int (nomark _))))) (pss_one (ps_ret (pv 1))) pss_nil)
      (pss_cons (ps_if (pt_cmp (pc_dnotin hu (pe_tup (pa_cons (pv 1) (pa_cons (pv 2) pa_nil))) (k_fld K (pv 0) rfl))) (pss_cons (ps_setLc (i := 4) (own := [("part", 3)]) (g := gName 3) rfl scFaces_whirled.nd rfl rfl (sw_true rfl rfl rfl (by decide +kernel)) (k_pit K (k_ix K (k_fld K (pv 0) rfl) (pv 1) (fun _ _ => rfl))) (blkOk_by (own := [("part", 3)]) (N := nFaces_whirled) (sc := defScope sFaces_whirled) (by decide +kernel)) (fun _ _ _ _ _ => pg_name (i := 3) scFaces_whirled.nd rfl (Or.inl rfl)) (fun _ _ _ _ _ => pts_nil) (fun _ _ _ _ _ => (q_meth (pv 0) T.cFaces T.mFaces_whirled GR (hr.mono (by omega)) passL (pa_cons (pv 3) (pa_cons (pv 2) pa_nil)))))
      (pss_cons (ps_asg (q_call Garranged (hr.mono (by omega)) T.garranged passX (pa_cons (pv 2) (pa_cons (pv 4) pa_nil))) (k_pgt (n := 4) K rfl (pgs_cons (pg_name (i := 5) scFaces_whirled.nd rfl (Or.inl rfl)) (pgs_cons (pg_name (i := 6) scFaces_whirled.nd rfl (Or.inl rfl)) (pgs_cons (pg_name (i := 7) scFaces_whirled.nd rfl (Or.inl rfl)) (pgs_cons (pg_name (i := 8) scFaces_whirled.nd rfl (Or.inl rfl)) pgs_nil))))))
      (pss_one (ps_dput hu (k_fld K (pv 0) rfl) (pe_tup (pa_cons (pv 1) (pa_cons (pv 2) pa_nil))) (q_meth (pv 0) T.cFaces T.mFaces_four GFaces_four (hr.mono (by omega)) passX (pa_cons (pv 5) (pa_cons (pv 6) (pa_cons (pv 7) (pa_cons (pv 8) pa_nil))))) rfl)))) pss_nil)
      (pss_one (ps_ret (pe_dget hu (k_fld K (pv 0) rfl) (pe_tup (pa_cons (pv 1) (pa_cons (pv 2) pa_nil))) (fun _ _ => rfl)))))), ?_⟩
      try dsimp only [cxOf]
      obtain ⟨p, A, D, ps, bs, f, t, P, rfl, hF, hP, ⟨t0, t8⟩, hd, hB, hbs, q⟩ := h
      obtain ⟨dx, ob⟩ := hF.ob
      have same : P.turn t = P → Q (.int f) H := fun e => by
        have e1 := q [] (by rw [List.append_nil]; exact hB) H D (Keep.refl _ _) (by rw [List.append_nil]; exact hF) (fun _ h => h) (fun b h => .inl h)
        rw [List.append_nil, e] at e1
        rw [IsF.eq hF.inv.nd hP]
        exact e1 hP.mem
      walk_at "z"
      refine z_fldR ob T.cFaces T.aFaces_depths lkFaces_depths ?_
      walk_at "z"
      refine z_ixL (SqL.of hF.depths) (FacesAt.depthAt hP) ?_
      walk_at "z"
      refine z_ite (fun c1 => ?_) (fun c1 => ?_)
      · walk_at "z"
        obtain ⟨c, rfl⟩ := depth_zero (P := P) (by omega)
        exact same rfl
      walk_at "z"
      refine z_ite (fun c2 => ?_) (fun c2 => ?_)
      · walk_at "z"
        exact same (by rw [c2, turn_zero])
      walk_at "z"
      walk_at "zt"
      rename_i kt nkt H1 s1 f1
      have hF1 := hF.same s1
      obtain ⟨dx1, ob1⟩ := hF1.ob
      obtain ⟨wh, hw, wok⟩ := hF1.whirl
      walk_at "z"
      refine z_fldR ob1 T.cFaces T.aFaces_whirls lkFaces_whirls ?_
      refine z_dniR (DGet.t (k := [.inl f, .inl t]) hw f1) ?_
      walk_at "z"
      have last : ∀ (qs : List Pic) (H9 : Hp) (D9 : Addr → Prop), Keep A.foot H H9 → FacesAt (He.ga K "Faces") H9 p A D9 (ps ++ qs) → Base bs (ps ++ qs) → (∀ b, D b → D9 b) → (∀ b, D9 b → D b ∨ H b = none) → P.turn t ∈ ps ++ qs → ∀ wh9, H9 A.w = some (.dT wh9) →
          valV wh9 [.inl f, .inl t] = some (.int (ix (ps ++ qs) (P.turn t) : Nat)) → ∀ R, H9 R = some (.tup [.int f, .int t]) → rDGt (.ref A.w) (.ref R) H9 Q := by
        intro qs H9 D9 kp hF9 hB9 d1 d2 hm wh9 hw9 hv R hR
        refine z_dgetR (v := .int (ix (ps ++ qs) (P.turn t) : Nat)) ?_ (q qs hB9 H9 D9 kp hF9 d1 d2 hm)
        have g := DGet.t (k := [.inl f, .inl t]) hw9 hR
        rw [hv] at g
        exact g
      cases hv : valV wh [.inl f, .inl t] with
      | some v =>
        obtain ⟨P', hP', hm', rfl⟩ := wok.val f t v hv
        obtain rfl := hP'.inj hP
        refine iteF ?_
        walk_at "z"
        refine z_fldR ob1 T.cFaces T.aFaces_whirls lkFaces_whirls ?_
        walk_at "z"
        walk_at "zt"
        rename_i kt2 nkt2 H2 s2 f2
        refine last [] H2 D (s1.trans s2).keep (by rw [List.append_nil]; exact hF1.same s2) (by rw [List.append_nil]; exact hB) (fun _ h => h) (fun b h => .inl h) (by rw [List.append_nil]; exact hm') wh (s2 _ _ hw) (by rw [List.append_nil]; exact hv) kt2 f2
      | none =>
        refine iteT ?_
        cases P with
        | p c => exact absurd rfl c1
        | q x y z w =>
        have hpin := hF.inv.cl _ hP.mem
        have hok := hF.inv.ok _ hP.mem
        have hxs : ∀ (i : Nat) (Q : Pic), ([x, y, z, w] : List Pic)[i]? = some Q → Q ∈ ps ∧ Q.depth < n := fun i Q e => by
          have hmem : Q ∈ [x, y, z, w] := List.mem_of_getElem? e
          refine ⟨hpin Q hmem, ?_⟩
          simp only [Pic.depth] at hd
          simp only [List.mem_cons, List.not_mem_nil, or_false] at hmem
          rcases hmem with rfl | rfl | rfl | rfl <;> omega
        obtain ⟨ns, hn, n2, n3⟩ := hF1.nodes
        have hlt : f.toNat < ns.length := by have := hP.1; have := hP.lt; omega
        obtain ⟨da, ha⟩ := n3 f.toNat _ _ (List.getElem?_eq_getElem hlt) hP.2
        walk_at "z"
        refine z_fldR ob1 T.cFaces T.aFaces_nodes lkFaces_nodes ?_
        walk_at "z"
        refine z_ixL (SqL.of hn) (atI_of (n := f.toNat) (v := .ref (ns[f.toNat])) (by rw [List.getElem?_map, List.getElem?_eq_getElem hlt]; rfl) (by have := hP.1; omega)) ?_
        have hnx : (nodeOf ps (Pic.q x y z w)).map V.int = ([x, y, z, w] : List Pic).map fun Q => V.int (ix ps Q : Nat) := rfl
        rw [hnx] at ha
        generalize ns[f.toNat] = nd at da ha ⊢
        refine ⟨nd, rfl, ⟨_, SqT.of ha⟩, fun L hL => ?_⟩
        have hLD : ¬ D L := hF1.nd hL
        have hL0 : H L = none := s1.free hL
        refine lc_tup (K := K) (a := nd) (xs := ([x, y, z, w] : List Pic).map fun Q => V.int (ix ps Q : Nat)) (fun i H' => ∃ qs D', Keep A.foot H1 H' ∧ FacesAt (He.ga K "Faces") H' p A D' (ps ++ qs) ∧ Base bs (ps ++ qs) ∧ (∀ b, D b → D' b) ∧ (∀ b, D' b → D b ∨ H1 b = none) ∧ ¬ D' L ∧
            H' L = some (.lst ((([x, y, z, w] : List Pic).take i).map fun Q => V.int (ix (ps ++ qs) (Q.turn t) : Nat))) ∧ ∀ Q ∈ ([x, y, z, w] : List Pic).take i, Q.turn t ∈ ps ++ qs)
          ⟨[], D, (Keep.refl _ _).setNew hL, by rw [List.append_nil]; exact hF1.same (Same.new hL), by rw [List.append_nil]; exact hB, fun _ h => h, fun b h => .inl h, hLD, upd_same, fun Q hQ => by simp at hQ⟩
          (fun i H' _ ⟨qs, D', kp, _⟩ => SqT.of (kp _ _ ha (foot_tup hF1 ha))) ?_ ?_
        · rintro i u H' hi ⟨qs, D', kp, hF2, hB2, d1, d2, nL, hL2, hm⟩
          obtain ⟨Q', hQ', rfl⟩ : ∃ Q', ([x, y, z, w] : List Pic)[i]? = some Q' ∧ u = .int (ix ps Q' : Nat) := by
            rw [List.getElem?_map] at hi
            cases e : ([x, y, z, w] : List Pic)[i]? with
            | none => rw [e] at hi; cases hi
            | some Q' => rw [e] at hi; exact ⟨Q', rfl, (Option.some.inj hi).symm⟩
          obtain ⟨hQm, hQd⟩ := hxs i Q' hQ'
          have hi4 : i < 4 := by have := (List.getElem?_eq_some_iff.mp hQ').1; simpa using this
          obtain ⟨dx2, ob2⟩ := hF2.ob
          walk_at "zw"
          walk_at "z"
          refine ⟨rfl, ?_⟩
          walk_at "z"
          refine z_methR ob2 noFaces_whirled ?_
          walk_at "z"
          refine ⟨p, A, D', ps ++ qs, bs, _, t, Q', rfl, hF2, (IsF.ix hQm).app, ⟨t0, t8⟩, hQd, hB2, hbs, fun qs2 hB3 H3 D3 kp3 hF3 e1 e2 hm3 => ?_⟩
          have hL3 : H3 L = some (.lst ((([x, y, z, w] : List Pic).take i).map fun Q => V.int (ix (ps ++ qs) (Q.turn t) : Nat))) := kp3 _ _ hL2 (hF2.ofFoot nL)
          have nL3 : ¬ D3 L := fun zz => (e2 _ zz).elim nL (fun e => by rw [hL2] at e; cases e)
          refine ⟨_, hL3, szlt (by simp; omega), qs ++ qs2, D3, (kp.trans kp3).setNew hL, ?_, by rw [← List.append_assoc]; exact hB3, fun b hb => e1 b (d1 b hb), fun b hb => ?_, nL3, ?_, ?_⟩
          · rw [← List.append_assoc]
            exact hF3.keep fun b o hb e => by rw [upd_ne (fun zz => nL3 (by rw [← zz]; exact hb))]; exact e
          · rcases e2 b hb with zz | zz
            · exact d2 b zz
            · refine .inr ?_
              cases e : H1 b with
              | none => rfl
              | some o =>
                by_cases hf : A.foot b
                · obtain ⟨o2, e2⟩ := hF2.ex b (hF2.df b hf)
                  rw [e2] at zz; cases zz
                · rw [kp b o e hf] at zz; cases zz
          · rw [upd_same, List.take_add_one, hQ', ← List.append_assoc]
            congr 2
            rw [List.map_append]
            congr 1
            apply List.map_congr_left
            intro R hR
            rw [ix_app (hm R hR)]
          · intro R hR
            rw [← List.append_assoc]
            rw [List.take_add_one, hQ'] at hR
            rcases List.mem_append.mp hR with zz | zz
            · exact List.mem_append_left _ (hm R zz)
            · simp at zz
              rw [zz]; exact hm3
        · rintro H2 ⟨qs, D', kp, hF2, hB2, d1, d2, nL, hL2, hm⟩
          have hx := hm x (by simp)
          have hy := hm y (by simp)
          have hz := hm z (by simp)
          have hw4 := hm w (by simp)
          walk_at "z"
          refine ⟨t, L, ((ix (ps ++ qs) (x.turn t) : Nat), (ix (ps ++ qs) (y.turn t) : Nat), (ix (ps ++ qs) (z.turn t) : Nat), (ix (ps ++ qs) (w.turn t) : Nat)), rfl, SqL.of hL2, fun H3 r s3 hr => ?_⟩
          refine z_gTup (SqT.of hr) rfl ?_
          unfold v4
          have hF3 := hF2.same s3
          obtain ⟨dx3, ob3⟩ := hF3.ob
          have em : arr t (((ix (ps ++ qs) (x.turn t) : Nat) : Int), ((ix (ps ++ qs) (y.turn t) : Nat) : Int), ((ix (ps ++ qs) (z.turn t) : Nat) : Int), ((ix (ps ++ qs) (w.turn t) : Nat) : Int)) = map4 (fun Q => ((ix (ps ++ qs) Q : Nat) : Int)) (arr t (x.turn t, y.turn t, z.turn t, w.turn t)) :=
            (arr_map t0 t8 (fun Q => ((ix (ps ++ qs) Q : Nat) : Int)) (x.turn t, y.turn t, z.turn t, w.turn t)).symm
          rw [em]
          have et : (Pic.q x y z w).turn t = q4 (arr t (x.turn t, y.turn t, z.turn t, w.turn t)) := turn_q t x y z w
          have hmem : ∀ R ∈ (q4 (arr t (x.turn t, y.turn t, z.turn t, w.turn t))).parts, R ∈ ps ++ qs := by
            rcases eight t0 t8 with rfl | rfl | rfl | rfl | rfl | rfl | rfl | rfl <;>
              (intro R hR; simp only [q4, arr, rots4, rot4, Pic.parts] at hR; simp at hR; rcases hR with rfl | rfl | rfl | rfl <;> assumption)
          have hok2 : (q4 (arr t (x.turn t, y.turn t, z.turn t, w.turn t))).ok := by rw [← et]; exact turn_ok t0 t8 hok
          have hBt : ∃ B ∈ bs, ∃ u : Int, (0 ≤ u ∧ u < 8) ∧ q4 (arr t (x.turn t, y.turn t, z.turn t, w.turn t)) = B.turn u := by rw [← et]; exact hB.turn hP.mem t0 t8
          rw [et] at q last
          generalize arr t (x.turn t, y.turn t, z.turn t, w.turn t) = r4 at et hmem hok2 hBt q last ⊢
          obtain ⟨a, b, c, d⟩ := r4
          have ma : a ∈ ps ++ qs := hmem a (by simp [q4, Pic.parts])
          have mb : b ∈ ps ++ qs := hmem b (by simp [q4, Pic.parts])
          have mc : c ∈ ps ++ qs := hmem c (by simp [q4, Pic.parts])
          have md : d ∈ ps ++ qs := hmem d (by simp [q4, Pic.parts])
          have hmk : Pic.mk a b c d = .q a b c d := mk_ok hok2
          have hle := hB2.len hF2.inv.nd
          simp only [map4]
          walk_at "z"
          refine z_methR ob3 noFaces_four ?_
          walk_at "z"
          refine ⟨p, A, D', ps ++ qs, _, _, _, _, rfl, hF3, by omega, fun no => absurd ⟨⟨(IsF.ix ma).1, (IsF.ix ma).lt⟩, ⟨(IsF.ix mb).1, (IsF.ix mb).lt⟩, ⟨(IsF.ix mc).1, (IsF.ix mc).lt⟩, ⟨(IsF.ix md).1, (IsF.ix md).lt⟩⟩ no, fun PA PB PC PD hA hB5 hC hD => ?_⟩
          obtain rfl := hA.inj (IsF.ix ma)
          obtain rfl := hB5.inj (IsF.ix mb)
          obtain rfl := hC.inj (IsF.ix mc)
          obtain rfl := hD.inj (IsF.ix md)
          rw [hmk]
          refine ⟨fun deep => absurd hok2.1 (by simp only [q4] at deep ⊢; omega), fun _ H4 D4 kp4 hF4 g1 g2 => ?_⟩
          have hB4 := hB2.add hBt
          obtain ⟨rs, ers⟩ := addP_ext (ps ++ qs) (.q PA PB PC PD)
          have hm4 : (q4 (PA, PB, PC, PD)) ∈ addP (ps ++ qs) (.q PA PB PC PD) := addP_mem _ _
          have hle4 := hB4.len hF4.inv.nd
          have eq4 : q4 (PA, PB, PC, PD) = Pic.q PA PB PC PD := rfl
          rw [eq4] at hm4 hB4 hle4 last et
          rw [ers, List.append_assoc] at hF4 hB4 hm4 hle4 ⊢
          obtain ⟨dx4, ob4⟩ := hF4.ob
          have keep14 : Keep A.foot H H4 := (s1.keep.trans kp).trans (s3.keep.trans kp4)
          have fresh4 : ∀ b, D4 b → D b ∨ H b = none := fun b hb => by
            have back : H2 b = none → D b ∨ H b = none := fun zz => by
              cases e : H b with
              | none => exact .inr rfl
              | some o =>
                by_cases hf : A.foot b
                · obtain ⟨o2, e2⟩ := hF2.ex b (hF2.df b hf)
                  rw [e2] at zz; cases zz
                · rw [kp b o (s1 _ _ e) hf] at zz; cases zz
            rcases g2 b hb with zz | zz
            · rcases d2 b zz with z1 | z1
              · exact .inl z1
              · exact .inr (s1.free z1)
            · exact back (s3.free zz)
          walk_at "z"
          refine z_fldR ob4 T.cFaces T.aFaces_whirls lkFaces_whirls ?_
          walk_at "z"
          walk_at "zt"
          rename_i kt5 nkt5 H5 s5 f5
          have hF5 := hF4.same s5
          obtain ⟨wh5, hw5, wok5⟩ := hF5.whirl
          have hwl := wok5.len
          have hPf : IsF (ps ++ (qs ++ rs)) f (.q x y z w) := hP.app
          have hput := wok5.put (t := t) hPf t0 t8 (by rw [et]; exact hm4)
          rw [et] at hput
          refine z_dputR (DPut.t (k := [.inl f, .inl t]) hw5 f5 (szbig (by omega))) ?_
          have hF6 := hF5.whirlSet hw5 hput
          have hw6 : upd H5 A.w (.dT (putK wh5 [.inl f, .inl t] (.int (ix (ps ++ (qs ++ rs)) (.q PA PB PC PD) : Nat)))) A.w = some (.dT (putK wh5 [.inl f, .inl t] (.int (ix (ps ++ (qs ++ rs)) (.q PA PB PC PD) : Nat)))) := upd_same
          have kp6 : Keep A.foot H5 (upd H5 A.w (.dT (putK wh5 [.inl f, .inl t] (.int (ix (ps ++ (qs ++ rs)) (.q PA PB PC PD) : Nat))))) := (Keep.refl _ _).set (.inr (.inr (.inr (.inr rfl))))
          generalize upd H5 A.w _ = H6 at hF6 hw6 kp6 ⊢
          obtain ⟨dx6, ob6⟩ := hF6.ob
          walk_at "z"
          refine z_fldR ob6 T.cFaces T.aFaces_whirls lkFaces_whirls ?_
          walk_at "z"
          walk_at "zt"
          rename_i kt7 nkt7 H7 s7 f7
          refine last (qs ++ rs) H7 D4 (keep14.trans (s5.keep.trans (kp6.trans s7.keep))) (hF6.same s7) hB4 (fun b hb => g1 b (d1 b hb)) fresh4 hm4 _ (s7 _ _ hw6) (by rw [valV_put, if_pos rfl]) kt7 f7
def spTurned (C N B : Addr) : Sp := fun vs H Q E => ∃ p A D ps bs, ∃ f t : Int, vs = [.ref p, .int f, .int t] ∧ FacesAt C H p A D ps ∧ Base bs ps ∧ bs.length ≤ 10000 ∧ (¬ (0 ≤ f ∧ f < ps.length) → E (.ref N) none H) ∧
  ∀ P, IsF ps f P → (¬ (0 ≤ t ∧ t ≤ 7) → E (.ref B) none H) ∧ ((0 ≤ t ∧ t < 8) → AfterX C H p A D bs ps fun ps' H' => P.turn t ∈ ps' → Q (.int (ix ps' (P.turn t) : Nat)) H')
abbrev nFaces_turned : List Str := ["self", "face", "turning"]
abbrev pFaces_turned : List Str := ["self", "face", "turning"]
theorem scFaces_turned : FnScope nFaces_turned pFaces_turned (defScope sFaces_turned) := ⟨rfl, rfl, rfl, by decide +kernel, rfl, by decide +kernel, by decide +kernel⟩
theorem ok_Faces_turned {P : Program} {w : World} {K : PySem.W.Frag} {mg : Str → Option Value} {base : Heap} (T : Tx w K mg) : Fk P w K mg base 16 (He.ma K (He.ga K "Faces") "turned") pFaces_turned (spTurned (He.ga K "Faces") (He.ga K "NoFace") (He.ga K "BadTurn")) := by
  have GFaces_need := ok_Faces_need (P := P) (w := w) (base := base) T
  have GFaces_whirled := ok_Faces_whirled (P := P) (w := w) (base := base) T 13
  refine Fk.mk' T.fFaces_turned scFaces_turned (fun _ _ _ _ _ _ us hl => match us, hl with | [_, _, _], _ => rfl) (by
  intro vs H Q E h
  repeat (first | (obtain ⟨h1, _⟩ := h; subst h1; rfl) | (obtain ⟨_, h⟩ := h))) (fun cdv A outer s H vs Q E hr h => ?_)
  have hu := hu_of hr
  have hu64 := hr.units
  refine ⟨_, (pss_cons (ps_expr (q_meth (pv 0) T.cFaces T.mFaces_need GFaces_need (hr.mono (by omega)) passX (pa_cons (pv 1) pa_nil)))
  (pss_cons (ps_if (PW.pt (pw_or (pt_cmpR op_lt (pv 2) pe_int (nomark _)) (pw_or1 (pt_cmpR op_gt (pv 2) pe_int (nomark _))))) (pss_one (ps_raise rfl takesX (pmk_own PySem.F.excBase_ValueError T.eBadTurn.1 T.gBadTurn T.eBadTurn.2.1 (raises_own T.eBadTurn.2.2.1 T.eBadTurn.2.2.2) (by rfl)))) pss_nil)
  (pss_one (ps_ret (q_meth (pv 0) T.cFaces T.mFaces_whirled GFaces_whirled (hr.mono (by omega)) passX (pa_cons (pv 1) (pa_cons (pv 2) pa_nil))))))), ?_⟩
  try dsimp only [cxOf]
  obtain ⟨p, A, D, ps, bs, f, t, rfl, hF, hB, hbs, e, q⟩ := h
  obtain ⟨dx, ob⟩ := hF.ob
  walk_at "z"
  refine z_methR ob noFaces_need ?_
  walk_at "z"
  refine ⟨p, A, D, ps, f, rfl, hF, fun c => ?_, e⟩
  obtain ⟨P, hP⟩ := IsF.ex c.1 c.2
  obtain ⟨q1, q2⟩ := q P hP
  have hd := ok_depth (hF.inv.ok _ hP.mem)
  walk_at "z"
  refine z_ite (fun c1 => ?_) (fun c1 => ?_)
  · walk_at "z"
    exact q1 (by omega)
  walk_at "z"
  refine z_ite (fun c2 => ?_) (fun c2 => ?_)
  · walk_at "z"
    exact q1 (by omega)
  walk_at "z"
  refine z_methR ob noFaces_whirled ?_
  walk_at "z"
  exact ⟨p, A, D, ps, bs, f, t, P, rfl, hF, hP, by omega, by omega, hB, hbs, q2 (by omega)⟩
abbrev nShop_turn : List Str := ["self", "rod", "turning", "face", "thickness", "length", "other"]
abbrev pShop_turn : List Str := ["self", "rod", "turning"]
theorem scShop_turn : FnScope nShop_turn pShop_turn (defScope sShop_turn) := ⟨rfl, rfl, rfl, by decide +kernel, rfl, by decide +kernel, by decide +kernel⟩
theorem ok_Shop_turn {P : Program} {w : World} {K : PySem.W.Frag} {mg : Str → Option Value} {base : Heap} (T : Tx w K mg) : Fk P w K mg base 17 (He.ma K (He.ga K "Shop") "turn") pShop_turn (spDeed K 2 mkTurn) := by
  have GShop_rod := ok_Shop_rod (P := P) (w := w) (base := base) T
  have GFaces_turned := ok_Faces_turned (P := P) (w := w) (base := base) T
  have GShop_began := ok_Shop_began (P := P) (w := w) (base := base) T
  refine Fk.mk' T.fShop_turn scShop_turn (fun _ _ _ _ _ _ us hl => match us, hl with | [_, _, _], _ => rfl) (fun vs H Q E h => spDeed_len h) (fun cdv A outer s H vs Q E hr h => ?_)
  have hu := hu_of hr
  have hu64 := hr.units
  refine ⟨_, (pss_cons (ps_asg (q_meth (pv 0) T.cShop T.mShop_rod GShop_rod (hr.mono (by omega)) passX (pa_cons (pv 1) pa_nil)) (k_pgt (n := 3) K rfl (pgs_cons (pg_name (i := 3) scShop_turn.nd rfl (Or.inl rfl)) (pgs_cons (pg_name (i := 4) scShop_turn.nd rfl (Or.inl rfl)) (pgs_cons (pg_name (i := 5) scShop_turn.nd rfl (Or.inl rfl)) pgs_nil)))))
  (pss_cons (ps_set (i := 6) scShop_turn.nd rfl (Or.inl rfl) (q_meth (k_fld K (pv 0) rfl) T.cFaces T.mFaces_turned GFaces_turned (hr.mono (by omega)) passX (pa_cons (pv 3) (pa_cons (pv 2) pa_nil))))
  (pss_cons (ps_expr (q_meth (pv 0) T.cShop T.mShop_began GShop_began (hr.mono (by omega)) passX (pa_cons (pe_tup (pa_cons pe_str (pa_cons (pv 1) (pa_cons (pv 2) pa_nil)))) pa_nil)))
  (pss_one (ps_dput hu (k_fld K (pv 0) rfl) (pv 1) (pe_tup (pa_cons (pv 6) (pa_cons (pv 4) (pa_cons (pv 5) pa_nil)))) rfl))))), ?_⟩
  try dsimp only [cxOf]
  obtain ⟨x, l0, dd, rfl, hl0, hmk, h, hk, q⟩ := h
  obtain ⟨n, m, rfl⟩ := two hl0
  obtain rfl := Option.some.inj hmk
  have hst := h.ok _ (.inl rfl)
  have hdl := hst.dl
  have hrl := hst.rl
  have hpl := h.pl
  walk_at "z"
  refine z_methR h.S.ob noS_rod ?_
  walk_at "z"
  refine ⟨x.s, x.p, x.B, x.now, n, rfl, h.S.rd, fun no => q.1 "NoRod" (by unfold refuse; simp only; rw [no]) H (Same.refl H), fun r a hf ha => ?_⟩
  obtain ⟨hn, hmem⟩ := findR_n hf
  obtain ⟨⟨⟨P, hP, hd⟩, thin, long, cap, one⟩, lt⟩ := hst.rod r hmem
  have hd12 := ok_depth (h.F.inv.ok P hP.mem)
  refine z_gTup (SqT.of ha) rfl ?_
  walk_at "z"
  obtain ⟨dxf, obf⟩ := h.F.ob
  refine z_fldR h.S.ob T.cShop T.aShop_faces lkS_faces ?_
  refine z_methR obf noFaces_turned ?_
  walk_at "z"
  have hbl := h.bl
  have hkl := h.kl
  refine ⟨x.p, x.A, x.D, x.ps, x.bs, r.f, m, rfl, h.F, h.base, by omega, fun no => absurd ⟨hP.1, hP.lt⟩ no, fun P2 hP2 => ⟨fun no => ?_, fun hm qs hB0 H0 D0 kp0 hF0 d1 d2 hM0 => ?_⟩⟩
  · exact q.1 "BadTurn" (by unfold refuse; simp only; rw [hf]; simp only; rw [if_pos no]) H (Same.refl H)
  obtain rfl := hP2.inj hP
  have hr : refuse x.ps x.now (.turn n m) = none := by unfold refuse; simp only; rw [hf]; simp only; rw [if_neg (by omega)]
  have hS0 := shopKeep h.S h.F h.ap kp0
  have ap0 := apKeep h.S h.ap d2
  have lv0 := liveF hF0 kp0
  walk_at "z"
  refine z_methR hS0.ob noS_began ?_
  walk_at "z"
  walk_at "zt"
  rename_i dt ndt H1 s1 f1
  walk_at "z"
  refine ⟨x.s, x.p, x.B, x.now, x.past, x.ahead, dt, .turn n m, rfl, hS0.same s1, f1, by omega, by omega, fun H2 B2 hS2 kp2 lv2 m2 => ?_⟩
  have lv02 : Live H0 H2 := s1.live.trans lv2
  have m20 : ∀ b ∈ B2.muts x.s, b ∈ x.B.muts x.s ∨ H0 b = none := fun b hb => (m2 b hb).imp id s1.free
  have m2' : ∀ b ∈ B2.muts x.s, b ∈ x.B.muts x.s ∨ H b = none := fun b hb => (m20 b hb).imp id (lv0 b)
  have m23 : ∀ b, b ∈ B2.muts x.s → x.foot b ∨ H b = none := fun b hb => (m2' b hb).imp (fun z => .inr z) id
  have ap2 : ∀ a ∈ B2.muts x.s, ¬ D0 a := fun a ha => (m20 a ha).elim (ap0 a) hF0.nd
  have kpH : Keep x.foot H H2 := keepM (keepF (Keep.refl _ _) (kp0.trans s1.keep)) (fun b hb => .inl (.inr hb)) kp2
  have kp02 : Keep (fun b => b ∈ x.B.muts x.s) H0 H2 := s1.keep.trans kp2
  obtain ⟨kvs, hkv, hrs⟩ := hS2.cur.d
  walk_at "z"
  walk_at "zt"
  rename_i t nt H3 s3 f3
  have hS3 := hS2.same s3
  walk_at "z"
  refine z_fldR hS3.ob T.cShop T.aShop_standing lkS_standing ?_
  walk_at "z"
  refine z_dputR (DPut.k (k := .inl n) (s3 _ _ hkv) (by rw [hrs.len]; exact szlt (by dsimp only; omega))) ?_
  have hS4 := hS3.setRods ((hrs.stay fun a xs e => s3 _ _ e).put (r := ⟨n, (ix (x.ps ++ qs) (P2.turn m) : Nat), r.t, r.l⟩) f3 (by dsimp only; rw [hf]; rfl))
  have hpic : picF (x.ps ++ qs) r.f = P2 := picF_of hP.app
  have e : eff (x.ps ++ qs) x.now (.turn n m) = { x.now with deeds := x.now.deeds ++ [.turn n m], rods := setR x.now.rods ⟨n, (ix (x.ps ++ qs) (P2.turn m) : Nat), r.t, r.l⟩ } := by
    simp only [eff, findR_some hf, hpic]
  refine q.fin h hk hr (B' := B2) (cs := x.bs) (hF0.keep fun b o hb e => ?_) hB0 (Nat.le_succ _) (by unfold hasP; simp only [findR_some hf, hpic]; exact hM0) (by rw [e]; exact hS4) ap2 ((kpH.trans s3.keep).setM (m23 _ (by simp [SB.muts, SP.muts]))) (((lv0.trans lv02).trans s3.live).set) d2 m2'
  have hb2 : b ∉ B2.muts x.s := fun z => ap2 b z hb
  rw [upd_ne (fun z => hb2 (by rw [z]; simp [SB.muts, SP.muts]))]
  refine s3 _ _ (kp02 b o e fun z => ap0 b z hb)
abbrev nShop_cut : List Str := ["self", "rod", "length", "face", "thickness", "whole"]
abbrev pShop_cut : List Str := ["self", "rod", "length"]
theorem scShop_cut : FnScope nShop_cut pShop_cut (defScope sShop_cut) := ⟨rfl, rfl, rfl, by decide +kernel, rfl, by decide +kernel, by decide +kernel⟩
theorem ok_Shop_cut {P : Program} {w : World} {K : PySem.W.Frag} {mg : Str → Option Value} {base : Heap} (T : Tx w K mg) : Fk P w K mg base 3 (He.ma K (He.ga K "Shop") "cut") pShop_cut (spDeed K 2 mkCut) := by
  have GShop_rod := ok_Shop_rod (P := P) (w := w) (base := base) T
  have GShop_began := ok_Shop_began (P := P) (w := w) (base := base) T
  have GShop_new_rod := ok_Shop_new_rod (P := P) (w := w) (base := base) T
  refine Fk.mk' T.fShop_cut scShop_cut (fun _ _ _ _ _ _ us hl => match us, hl with | [_, _, _], _ => rfl) (fun vs H Q E h => spDeed_len h) (fun cdv A outer s H vs Q E hr h => ?_)
  have hu := hu_of hr
  have hu64 := hr.units
  refine ⟨_, (pss_cons (ps_asg (q_meth (pv 0) T.cShop T.mShop_rod GShop_rod (hr.mono (by omega)) passX (pa_cons (pv 1) pa_nil)) (k_pgt (n := 3) K rfl (pgs_cons (pg_name (i := 3) scShop_cut.nd rfl (Or.inl rfl)) (pgs_cons (pg_name (i := 4) scShop_cut.nd rfl (Or.inl rfl)) (pgs_cons (pg_name (i := 5) scShop_cut.nd rfl (Or.inl rfl)) pgs_nil)))))
  (pss_cons (ps_if (PW.pt (pw_or (pt_cmpR op_lt (pv 2) pe_int (nomark _)) (pw_or (pt_cmpR op_ge (pv 2) (pv 5) (nomark _)) (pw_or1 (pt_cmpR op_gt (pv 2) (q_int T.iMOST) (nomark _)))))) (pss_one (ps_raise rfl takesX (pmk_own PySem.F.excBase_ValueError T.eBadLength.1 T.gBadLength T.eBadLength.2.1 (raises_own T.eBadLength.2.2.1 T.eBadLength.2.2.2) (by rfl)))) pss_nil)
  (pss_cons (ps_expr (q_meth (pv 0) T.cShop T.mShop_began GShop_began (hr.mono (by omega)) passX (pa_cons (pe_tup (pa_cons pe_str (pa_cons (pv 1) (pa_cons (pv 2) pa_nil)))) pa_nil)))
  (pss_cons (ps_dput hu (k_fld K (pv 0) rfl) (pv 1) (pe_tup (pa_cons (pv 3) (pa_cons (pv 4) (pa_cons (pv 2) pa_nil)))) rfl)
  (pss_one (ps_ret (q_meth (pv 0) T.cShop T.mShop_new_rod GShop_new_rod (hr.mono (by omega)) passX (pa_cons (pv 3) (pa_cons (pv 4) (pa_cons (pe_op op_sub (pv 5) (pv 2)) pa_nil)))))))))), ?_⟩
  try dsimp only [cxOf]
  obtain ⟨x, l0, dd, rfl, hl0, hmk, h, hk, q⟩ := h
  obtain ⟨n, m, rfl⟩ := two hl0
  obtain rfl := Option.some.inj hmk
  have hst := h.ok _ (.inl rfl)
  have hdl := hst.dl
  have hrl := hst.rl
  have hpl := h.pl
  walk_at "z"
  refine z_methR h.S.ob noS_rod ?_
  walk_at "z"
  refine ⟨x.s, x.p, x.B, x.now, n, rfl, h.S.rd, fun no => q.1 "NoRod" (by unfold refuse; simp only; rw [no]) H (Same.refl H), fun r a hf ha => ?_⟩
  obtain ⟨hn, hmem⟩ := findR_n hf
  obtain ⟨⟨⟨P, hP, hd⟩, thin, long, cap, one⟩, lt⟩ := hst.rod r hmem
  have hd12 := ok_depth (h.F.inv.ok P hP.mem)
  refine z_gTup (SqT.of ha) rfl ?_
  walk_at "z"
  have bad : m < 1 ∨ r.l ≤ m ∨ 999999999999999999 < m → refuse x.ps x.now (.cut n m) = some ("BadLength" : Str) := fun c => by unfold refuse; simp only; rw [hf]; simp only; rw [if_pos c]
  refine z_ite (fun c1 => ?_) (fun c1 => ?_)
  · walk_at "z"
    exact q.1 "BadLength" (bad (by omega)) H (Same.refl H)
  walk_at "z"
  refine z_ite (fun c2 => ?_) (fun c2 => ?_)
  · walk_at "z"
    exact q.1 "BadLength" (bad (by omega)) H (Same.refl H)
  walk_at "z"
  refine z_ite (fun c3 => ?_) (fun c3 => ?_)
  · walk_at "z"
    exact q.1 "BadLength" (bad (by omega)) H (Same.refl H)
  have hr : refuse x.ps x.now (.cut n m) = none := by unfold refuse; simp only; rw [hf]; simp only; rw [if_neg (by omega)]
  walk_at "z"
  refine z_methR h.S.ob noS_began ?_
  walk_at "z"
  walk_at "zt"
  rename_i dt ndt H1 s1 f1
  have h1 := h.same s1
  walk_at "z"
  refine ⟨x.s, x.p, x.B, x.now, x.past, x.ahead, dt, .cut n m, rfl, h1.S, f1, by omega, by omega, fun H2 B2 hS2 kp2 lv2 m2 => ?_⟩
  have m2' : ∀ b ∈ B2.muts x.s, b ∈ x.B.muts x.s ∨ H b = none := fun b hb => (m2 b hb).imp id s1.free
  have m23 : ∀ b, b ∈ B2.muts x.s → b ∈ x.B.muts x.s ∨ H b = none := fun b hb => m2' b hb
  have kpH : Keep (fun b => b ∈ x.B.muts x.s) H H2 := s1.keep.trans kp2
  have lvH : Live H H2 := s1.live.trans lv2
  obtain ⟨kvs, hkv, hrs⟩ := hS2.cur.d
  walk_at "z"
  walk_at "zt"
  rename_i t nt H3 s3 f3
  have hS3 := hS2.same s3
  walk_at "z"
  refine z_fldR hS3.ob T.cShop T.aShop_standing lkS_standing ?_
  walk_at "z"
  refine z_dputR (DPut.k (k := .inl n) (s3 _ _ hkv) (by rw [hrs.len]; exact szlt (by dsimp only; omega))) ?_
  have hS4 := hS3.setRods ((hrs.stay fun a xs e => s3 _ _ e).put (r := ⟨n, r.f, r.t, m⟩) f3 (by dsimp only; rw [hf]; rfl))
  have kp4 : Keep (fun b => b ∈ x.B.muts x.s) H (upd H3 B2.q.d (.dK (putK kvs (.inl n) (.ref t)))) := (kpH.trans s3.keep).setM (m23 _ (by simp [SB.muts, SP.muts]))
  have lv4 : Live H (upd H3 B2.q.d (.dK (putK kvs (.inl n) (.ref t)))) := (lvH.trans s3.live).set
  generalize upd H3 B2.q.d _ = H4 at hS4 kp4 lv4 ⊢
  walk_at "z"
  refine z_methR hS4.ob noS_new_rod ?_
  walk_at "z"
  refine ⟨x.s, x.p, B2, _, _, _, _, _, _, rfl, hS4, (hst.ro.set (r := ⟨n, r.f, r.t, m⟩) ⟨⟨P, hP, hd⟩, thin, by dsimp only; omega, Int.lt_trans (show m < r.l by omega) cap, by dsimp only; omega⟩ (by dsimp only; omega)).fresh, by dsimp only [setR]; rw [List.length_map]; omega, fun H5 hS5 kp5 lv5 => ?_⟩
  have e : eff x.ps x.now (.cut n m) = { x.now with deeds := x.now.deeds ++ [.cut n m], rods := setR x.now.rods ⟨n, r.f, r.t, m⟩ ++ [⟨x.now.com, r.f, r.t, r.l - m⟩], com := x.now.com + 1 } := by
    simp only [eff, findR_some hf]
  refine q.fin0 h hk hr (B' := B2) trivial (by rw [e]; exact hS5) (fun b o eb nb => kp5 b o (kp4 b o eb nb) fun z => (m23 b z).elim nb fun y => by rw [y] at eb; cases eb) (lv4.trans lv5) m2'
abbrev nShop_fuse : List Str := ["self", "one", "other", "face", "thickness", "length", "more"]
abbrev pShop_fuse : List Str := ["self", "one", "other"]
theorem scShop_fuse : FnScope nShop_fuse pShop_fuse (defScope sShop_fuse) := ⟨rfl, rfl, rfl, by decide +kernel, rfl, by decide +kernel, by decide +kernel⟩
theorem ok_Shop_fuse {P : Program} {w : World} {K : PySem.W.Frag} {mg : Str → Option Value} {base : Heap} (T : Tx w K mg) : Fk P w K mg base 3 (He.ma K (He.ga K "Shop") "fuse") pShop_fuse (spDeed K 2 mkFuse) := by
  have GShop_rod := ok_Shop_rod (P := P) (w := w) (base := base) T
  have GShop_began := ok_Shop_began (P := P) (w := w) (base := base) T
  refine Fk.mk' T.fShop_fuse scShop_fuse (fun _ _ _ _ _ _ us hl => match us, hl with | [_, _, _], _ => rfl) (fun vs H Q E h => spDeed_len h) (fun cdv A outer s H vs Q E hr h => ?_)
  have hu := hu_of hr
  have hu64 := hr.units
  refine ⟨_, (pss_cons (ps_asg (q_meth (pv 0) T.cShop T.mShop_rod GShop_rod (hr.mono (by omega)) passX (pa_cons (pv 1) pa_nil)) (k_pgt (n := 3) K rfl (pgs_cons (pg_name (i := 3) scShop_fuse.nd rfl (Or.inl rfl)) (pgs_cons (pg_name (i := 4) scShop_fuse.nd rfl (Or.inl rfl)) (pgs_cons (pg_name (i := 5) scShop_fuse.nd rfl (Or.inl rfl)) pgs_nil)))))
  (pss_cons (ps_set (i := 6) scShop_fuse.nd rfl (Or.inl rfl) (q_meth (pv 0) T.cShop T.mShop_rod GShop_rod (hr.mono (by omega)) passX (pa_cons (pv 2) pa_nil)))
  (pss_cons (ps_if (pt_cmpR (k_eq K hu64) (pv 1) (pv 2) (nomark _)) (pss_one (ps_raise rfl takesX (pmk_own PySem.F.excBase_ValueError T.eTwice.1 T.gTwice T.eTwice.2.1 (raises_own T.eTwice.2.2.1 T.eTwice.2.2.2) (by rfl)))) pss_nil)
  (pss_cons (ps_if (pt_cmpR (k_ne K hu64) (pe_slice (k_slt K) (pv 6) po_none (po_some pe_int)) (pe_tup (pa_cons (pv 3) (pa_cons (pv 4) pa_nil))) (nomark _)) (pss_one (ps_raise rfl takesX (pmk_own PySem.F.excBase_ValueError T.eUnlike.1 T.gUnlike T.eUnlike.2.1 (raises_own T.eUnlike.2.2.1 T.eUnlike.2.2.2) (by rfl)))) pss_nil)
  (pss_cons (ps_expr (q_meth (pv 0) T.cShop T.mShop_began GShop_began (hr.mono (by omega)) passX (pa_cons (pe_tup (pa_cons pe_str (pa_cons (pv 1) (pa_cons (pv 2) pa_nil)))) pa_nil)))
  (pss_cons (ps_expr (pe_dpop1 (k_fld K (pv 0) rfl) (pv 2) ⟨rfl, rfl, rfl, rfl⟩))
  (pss_one (ps_dput hu (k_fld K (pv 0) rfl) (pv 1) (pe_tup (pa_cons (pv 3) (pa_cons (pv 4) (pa_cons (pe_op (k_add K) (pv 5) (k_ix K (pv 6) pe_int (fun _ _ => rfl))) pa_nil)))) rfl)))))))), ?_⟩
  try dsimp only [cxOf]
  obtain ⟨x, l0, dd, rfl, hl0, hmk, h, hk, q⟩ := h
  obtain ⟨n, m, rfl⟩ := two hl0
  obtain rfl := Option.some.inj hmk
  have hst := h.ok _ (.inl rfl)
  have hdl := hst.dl
  have hrl := hst.rl
  have hpl := h.pl
  walk_at "z"
  refine z_methR h.S.ob noS_rod ?_
  walk_at "z"
  refine ⟨x.s, x.p, x.B, x.now, n, rfl, h.S.rd, fun no => q.1 "NoRod" (by unfold refuse; simp only; rw [no]) H (Same.refl H), fun r a hf ha => ?_⟩
  obtain ⟨hn, hmem⟩ := findR_n hf
  obtain ⟨⟨⟨P, hP, hd⟩, thin, long, cap, one⟩, lt⟩ := hst.rod r hmem
  refine z_gTup (SqT.of ha) rfl ?_
  walk_at "z"
  refine z_methR h.S.ob noS_rod ?_
  walk_at "z"
  refine ⟨x.s, x.p, x.B, x.now, m, rfl, h.S.rd, fun no => q.1 "NoRod" (by unfold refuse; simp only; rw [hf, no]) H (Same.refl H), fun r2 a2 hf2 ha2 => ?_⟩
  walk_at "z"
  refine z_ite (fun c1 => ?_) (fun c1 => ?_)
  · walk_at "z"
    exact q.1 "Twice" (by unfold refuse; simp only; rw [hf, hf2]; simp only; rw [if_pos c1]) H (Same.refl H)
  walk_at "z"
  refine z_slT ha2 (cut_to _ 2) ?_
  intro sa Hs ss fs
  walk_at "z"
  walk_at "zt"
  rename_i sb nsb Hz sz fz
  have s0z := ss.trans sz
  refine z_neDv (d := .tuple [.int r2.f, .int r2.t]) (e := .tuple [.int r.f, .int r.t]) (.tup (sz _ _ fs) (.cons (.int _) (.cons (.int _) .nil))) (.tup fz (.cons (.int _) (.cons (.int _) .nil))) rfl rfl ?_
  have ee : PyData.eqv (.tuple [.int r2.f, .int r2.t]) (.tuple [.int r.f, .int r.t]) = decide (r2.f = r.f ∧ r2.t = r.t) := by
    simp [PyData.eqv, PyData.eqvAll]
    rfl
  rw [ee]
  walk_at "z"
  refine z_iteN (fun c2 => ?_) (fun c2 => ?_)
  · walk_at "z"
    exact q.1 "Unlike" (by unfold refuse; simp only; rw [hf, hf2]; simp only; rw [if_neg c1, if_pos c2]) Hz s0z
  have hr : refuse x.ps x.now (.fuse n m) = none := by unfold refuse; simp only; rw [hf, hf2]; simp only; rw [if_neg c1, if_neg (fun z => z c2)]
  have h0 := h
  have q0 := q.same s0z
  have ha2z := s0z _ _ ha2
  replace h : x.at K Hz := h.same s0z
  walk_at "z"
  refine z_methR h.S.ob noS_began ?_
  walk_at "z"
  walk_at "zt"
  rename_i dt ndt H1 s1 f1
  have h1 := h.same s1
  walk_at "z"
  refine ⟨x.s, x.p, x.B, x.now, x.past, x.ahead, dt, .fuse n m, rfl, h1.S, f1, by omega, by omega, fun H2 B2 hS2 kp2 lv2 m2 => ?_⟩
  have m2' : ∀ b ∈ B2.muts x.s, b ∈ x.B.muts x.s ∨ Hz b = none := fun b hb => (m2 b hb).imp id s1.free
  have m23 : ∀ b, b ∈ B2.muts x.s → b ∈ x.B.muts x.s ∨ Hz b = none := fun b hb => m2' b hb
  have kpH : Keep (fun b => b ∈ x.B.muts x.s) Hz H2 := s1.keep.trans kp2
  have lvH : Live Hz H2 := s1.live.trans lv2
  obtain ⟨kvs, hkv, hrs⟩ := hS2.cur.d
  have ha2' : H2 a2 = some (.tup [.int r2.f, .int r2.t, .int r2.l]) := kp2 _ _ (s1 _ _ ha2z) fun z => by
    obtain ⟨o, e, nt⟩ := h1.S.there _ z
    rw [s1 _ _ ha2z] at e
    exact nt _ (Option.some.inj e).symm
  walk_at "z"
  refine z_fldR hS2.ob T.cShop T.aShop_standing lkS_standing ?_
  refine ⟨B2.q.d, rfl, .inl ⟨kvs, .inl hkv⟩, ?_⟩
  walk_at "z"
  rcases hrs.find m with ⟨r3, a3, g1, g2, g3, g4⟩ | ⟨g1, g2⟩
  · refine ⟨kvs, .inl m, .ref a3, hkv, rfl, g2, ?_⟩
    have hS3 := hS2.setRods (hrs.drop m)
    have hrs3 := hrs.drop m
    have kp3 : Keep (fun b => b ∈ x.B.muts x.s) Hz (upd H2 B2.q.d (.dK (dropK kvs (.inl m)))) := kpH.setM (m23 _ (by simp [SB.muts, SP.muts]))
    have lv3 : Live Hz (upd H2 B2.q.d (.dK (dropK kvs (.inl m)))) := lvH.set
    have ha3 : (upd H2 B2.q.d (.dK (dropK kvs (.inl m)))) a2 = some (.tup [.int r2.f, .int r2.t, .int r2.l]) := tup_stay hkv (fun _ z => by cases z) _ _ ha2'
    have hkv3 : (upd H2 B2.q.d (.dK (dropK kvs (.inl m)))) B2.q.d = some (.dK (dropK kvs (.inl m))) := upd_same
    have hrs4 := hrs3.stay (H' := upd H2 B2.q.d (.dK (dropK kvs (.inl m)))) (tup_stay hkv fun _ z => by cases z)
    generalize upd H2 B2.q.d _ = H3 at hS3 kp3 lv3 ha3 hkv3 hrs4 ⊢
    walk_at "z"
    refine z_ixT (SqT.of ha3) (atI_of (n := 2) rfl rfl) ?_
    walk_at "z"
    walk_at "zt"
    rename_i t nt H4 s4 f4
    have hS4 := hS3.same s4
    walk_at "z"
    refine z_fldR hS4.ob T.cShop T.aShop_standing lkS_standing ?_
    walk_at "z"
    have hdl3 := (hst.ro.drop m).len
    refine z_dputR (DPut.k (k := .inl n) (s4 _ _ hkv3) (by rw [hrs4.len]; exact szlt (by dsimp only; omega))) ?_
    have hin : (findR (dropR x.now.rods m) n).isSome = true := by
      unfold findR
      rw [List.find?_isSome]
      exact ⟨r, by unfold dropR; rw [List.mem_filter]; exact ⟨hmem, by rw [hn]; simpa using c1⟩, by simpa using hn⟩
    have hS5 := hS4.setRods ((hrs4.stay fun a xs e => s4 _ _ e).put (r := ⟨n, r.f, r.t, r.l + r2.l⟩) f4 hin)
    have e : eff x.ps x.now (.fuse n m) = { x.now with deeds := x.now.deeds ++ [.fuse n m], rods := setR (dropR x.now.rods m) ⟨n, r.f, r.t, r.l + r2.l⟩ } := by
      simp only [eff, findR_some hf, findR_some hf2]
    refine q0.fin0 h hk hr (B' := B2) trivial (by rw [e]; exact hS5) ((kp3.trans s4.keep).setM (m23 _ (by simp [SB.muts, SP.muts]))) ((lv3.trans s4.live).set) m2'
  · exact absurd (show findR x.now.rods m = none from g1) (by rw [hf2]; intro z; cases z)
abbrev nShop_sell : List Str := ["self", "rod"]
abbrev pShop_sell : List Str := ["self", "rod"]
theorem scShop_sell : FnScope nShop_sell pShop_sell (defScope sShop_sell) := ⟨rfl, rfl, rfl, by decide +kernel, rfl, by decide +kernel, by decide +kernel⟩
theorem ok_Shop_sell {P : Program} {w : World} {K : PySem.W.Frag} {mg : Str → Option Value} {base : Heap} (T : Tx w K mg) : Fk P w K mg base 6 (He.ma K (He.ga K "Shop") "sell") pShop_sell (spDeed K 1 mkSell) := by
  have GShop_gone := ok_Shop_gone (P := P) (w := w) (base := base) T
  refine Fk.mk' T.fShop_sell scShop_sell (fun _ _ _ _ _ _ us hl => match us, hl with | [_, _], _ => rfl) (fun vs H Q E h => spDeed_len h) (fun cdv A outer s H vs Q E hr h => ?_)
  have hu := hu_of hr
  have hu64 := hr.units
  refine ⟨_, (pss_one (ps_expr (q_meth (pv 0) T.cShop T.mShop_gone GShop_gone (hr.mono (by omega)) passX (pa_cons (pv 1) (pa_cons pe_str (pa_cons pe_int pa_nil)))))), ?_⟩
  try dsimp only [cxOf]
  obtain ⟨x, l0, dd, rfl, hl0, hmk, h, hk, q⟩ := h
  obtain ⟨n, rfl⟩ := one1 hl0
  obtain rfl := Option.some.inj hmk
  walk_at "z"
  refine z_methR h.S.ob noS_gone ?_
  walk_at "z"
  exact ⟨x, n, _, .inl ⟨rfl, rfl⟩, h, hk, ⟨q.1, fun e H' y a b c d f g i => q.2 e H' y a b c d f g i⟩⟩
abbrev nShop_do : List Str := ["self", "deed"]
abbrev pShop_do : List Str := ["self", "deed"]
theorem scShop_do : FnScope nShop_do pShop_do (defScope sShop_do) := ⟨rfl, rfl, rfl, by decide +kernel, rfl, by decide +kernel, by decide +kernel⟩
theorem ok_Shop_do {P : Program} {w : World} {K : PySem.W.Frag} {mg : Str → Option Value} {base : Heap} (T : Tx w K mg) : Fk P w K mg base 18 (He.ma K (He.ga K "Shop") "do") pShop_do (spDo K) := by
  have GShop_waste := ok_Shop_waste (P := P) (w := w) (base := base) T
  have Gis_deed := ok_is_deed (P := P) (w := w) (base := base) T
  have GShop_gather := ok_Shop_gather (P := P) (w := w) (base := base) T
  have GShop_pull := ok_Shop_pull (P := P) (w := w) (base := base) T
  have GShop_bundle := ok_Shop_bundle (P := P) (w := w) (base := base) T
  have GShop_turn := ok_Shop_turn (P := P) (w := w) (base := base) T
  have GShop_cut := ok_Shop_cut (P := P) (w := w) (base := base) T
  have GShop_fuse := ok_Shop_fuse (P := P) (w := w) (base := base) T
  have GShop_sell := ok_Shop_sell (P := P) (w := w) (base := base) T
  refine Fk.mk' T.fShop_do scShop_do (fun _ _ _ _ _ _ us hl => match us, hl with | [_, _], _ => rfl) (by
  intro vs H Q E h
  repeat (first | (obtain ⟨h1, _⟩ := h; subst h1; rfl) | (obtain ⟨_, h⟩ := h))) (fun cdv A outer s H vs Q E hr h => ?_)
  have hu := hu_of hr
  have hu64 := hr.units
  refine ⟨_, (pss_cons (ps_if (pt_not (pt_val (q_call Gis_deed (hr.mono (by omega)) T.gis_deed passX (pa_cons (pv 1) pa_nil)))) (pss_one (ps_raise rfl takesX (pmk_own PySem.F.excBase_ValueError T.eBadDeed.1 T.gBadDeed T.eBadDeed.2.1 (raises_own T.eBadDeed.2.2.1 T.eBadDeed.2.2.2) (by rfl)))) pss_nil)
  (pss_cons (ps_if (pt_cmpR (k_eq K hu64) (k_ix K (pv 1) pe_int (fun _ _ => rfl)) pe_str (nomark _)) (pss_one (ps_ret (q_meth (pv 0) T.cShop T.mShop_gather GShop_gather (hr.mono (by omega)) passX (pa_cons (k_ix K (pv 1) pe_int (fun _ _ => rfl)) (pa_cons (k_ix K (pv 1) pe_int (fun _ _ => rfl)) (pa_cons (k_ix K (pv 1) pe_int (fun _ _ => rfl)) pa_nil)))))) pss_nil)
  (pss_cons (ps_if (pt_cmpR (k_eq K hu64) (k_ix K (pv 1) pe_int (fun _ _ => rfl)) pe_str (nomark _)) (pss_one (ps_ret (q_meth (pv 0) T.cShop T.mShop_pull GShop_pull (hr.mono (by omega)) passX (pa_cons (k_ix K (pv 1) pe_int (fun _ _ => rfl)) (pa_cons (k_ix K (pv 1) pe_int (fun _ _ => rfl)) pa_nil))))) pss_nil)
  (pss_cons (ps_if (pt_cmpR (k_eq K hu64) (k_ix K (pv 1) pe_int (fun _ _ => rfl)) pe_str (nomark _)) (pss_one (ps_ret (q_meth (pv 0) T.cShop T.mShop_bundle GShop_bundle (hr.mono (by omega)) passX (pa_cons (k_ix K (pv 1) pe_int (fun _ _ => rfl)) (pa_cons (k_ix K (pv 1) pe_int (fun _ _ => rfl)) (pa_cons (k_ix K (pv 1) pe_int (fun _ _ => rfl)) (pa_cons (k_ix K (pv 1) pe_int (fun _ _ => rfl)) pa_nil))))))) pss_nil)
  (pss_cons (ps_if (pt_cmpR (k_eq K hu64) (k_ix K (pv 1) pe_int (fun _ _ => rfl)) pe_str (nomark _)) (pss_one (ps_ret (q_meth (pv 0) T.cShop T.mShop_turn GShop_turn (hr.mono (by omega)) passX (pa_cons (k_ix K (pv 1) pe_int (fun _ _ => rfl)) (pa_cons (k_ix K (pv 1) pe_int (fun _ _ => rfl)) pa_nil))))) pss_nil)
  (pss_cons (ps_if (pt_cmpR (k_eq K hu64) (k_ix K (pv 1) pe_int (fun _ _ => rfl)) pe_str (nomark _)) (pss_one (ps_ret (q_meth (pv 0) T.cShop T.mShop_cut GShop_cut (hr.mono (by omega)) passX (pa_cons (k_ix K (pv 1) pe_int (fun _ _ => rfl)) (pa_cons (k_ix K (pv 1) pe_int (fun _ _ => rfl)) pa_nil))))) pss_nil)
  (pss_cons (ps_if (pt_cmpR (k_eq K hu64) (k_ix K (pv 1) pe_int (fun _ _ => rfl)) pe_str (nomark _)) (pss_one (ps_ret (q_meth (pv 0) T.cShop T.mShop_fuse GShop_fuse (hr.mono (by omega)) passX (pa_cons (k_ix K (pv 1) pe_int (fun _ _ => rfl)) (pa_cons (k_ix K (pv 1) pe_int (fun _ _ => rfl)) pa_nil))))) pss_nil)
  (pss_cons (ps_if (pt_cmpR (k_eq K hu64) (k_ix K (pv 1) pe_int (fun _ _ => rfl)) pe_str (nomark _)) (pss_one (ps_ret (q_meth (pv 0) T.cShop T.mShop_sell GShop_sell (hr.mono (by omega)) passX (pa_cons (k_ix K (pv 1) pe_int (fun _ _ => rfl)) pa_nil)))) pss_nil)
  (pss_one (ps_ret (q_meth (pv 0) T.cShop T.mShop_waste GShop_waste (hr.mono (by omega)) passX (pa_cons (k_ix K (pv 1) pe_int (fun _ _ => rfl)) pa_nil)))))))))))), ?_⟩
  try dsimp only [cxOf]
  obtain ⟨x, a, xs, ds, rfl, ha, hds, his, h, hk, e, q⟩ := h
  walk_at "z"
  refine ⟨a, xs, ds, rfl, ha, hds, his, fun H1 s1 => ?_⟩
  have h1 := h.same s1
  have ha1 := s1 _ _ ha
  cases hd : isDeed ds with
  | false =>
    walk_at "z"
    exact e hd H1 s1
  | true =>
  obtain ⟨dd, rfl⟩ := deed_of hd
  obtain rfl := vals_deed hds
  have q1 := (q dd rfl hd).same s1
  walk_at "z"
  cases dd with
  | gather c t l =>
    refine z_ixT (SqT.of ha1) (atI_of (n := 0) (v := .str "gather") rfl rfl) ?_
    walk_at "z"
    refine z_yes rfl ?_
    walk_at "z"
    refine z_methR h1.S.ob noS_gather ?_
    walk_at "z"
    refine z_ixT (SqT.of ha1) (atI_of (n := 1) (v := .int c) rfl rfl) ?_
    walk_at "z"
    refine z_ixT (SqT.of ha1) (atI_of (n := 2) (v := .int t) rfl rfl) ?_
    walk_at "z"
    refine z_ixT (SqT.of ha1) (atI_of (n := 3) (v := .int l) rfl rfl) ?_
    walk_at "z"
    exact ⟨x, [c, t, l], _, rfl, rfl, rfl, h1, hk, q1⟩
  | pull r m =>
    refine z_ixT (SqT.of ha1) (atI_of (n := 0) (v := .str "pull") rfl rfl) ?_
    walk_at "z"
    refine z_no (by decide) ?_
    walk_at "z"
    refine z_ixT (SqT.of ha1) (atI_of (n := 0) (v := .str "pull") rfl rfl) ?_
    walk_at "z"
    refine z_yes rfl ?_
    walk_at "z"
    refine z_methR h1.S.ob noS_pull ?_
    walk_at "z"
    refine z_ixT (SqT.of ha1) (atI_of (n := 1) (v := .int r) rfl rfl) ?_
    walk_at "z"
    refine z_ixT (SqT.of ha1) (atI_of (n := 2) (v := .int m) rfl rfl) ?_
    walk_at "z"
    exact ⟨x, [r, m], _, rfl, rfl, rfl, h1, hk, q1⟩
  | bundle b1 b2 b3 b4 =>
    refine z_ixT (SqT.of ha1) (atI_of (n := 0) (v := .str "bundle") rfl rfl) ?_
    walk_at "z"
    refine z_no (by decide) ?_
    walk_at "z"
    refine z_ixT (SqT.of ha1) (atI_of (n := 0) (v := .str "bundle") rfl rfl) ?_
    walk_at "z"
    refine z_no (by decide) ?_
    walk_at "z"
    refine z_ixT (SqT.of ha1) (atI_of (n := 0) (v := .str "bundle") rfl rfl) ?_
    walk_at "z"
    refine z_yes rfl ?_
    walk_at "z"
    refine z_methR h1.S.ob noS_bundle ?_
    walk_at "z"
    refine z_ixT (SqT.of ha1) (atI_of (n := 1) (v := .int b1) rfl rfl) ?_
    walk_at "z"
    refine z_ixT (SqT.of ha1) (atI_of (n := 2) (v := .int b2) rfl rfl) ?_
    walk_at "z"
    refine z_ixT (SqT.of ha1) (atI_of (n := 3) (v := .int b3) rfl rfl) ?_
    walk_at "z"
    refine z_ixT (SqT.of ha1) (atI_of (n := 4) (v := .int b4) rfl rfl) ?_
    walk_at "z"
    exact ⟨x, [b1, b2, b3, b4], _, rfl, rfl, rfl, h1, hk, q1⟩
  | turn r m =>
    refine z_ixT (SqT.of ha1) (atI_of (n := 0) (v := .str "turn") rfl rfl) ?_
    walk_at "z"
    refine z_no (by decide) ?_
    walk_at "z"
    refine z_ixT (SqT.of ha1) (atI_of (n := 0) (v := .str "turn") rfl rfl) ?_
    walk_at "z"
    refine z_no (by decide) ?_
    walk_at "z"
    refine z_ixT (SqT.of ha1) (atI_of (n := 0) (v := .str "turn") rfl rfl) ?_
    walk_at "z"
    refine z_no (by decide) ?_
    walk_at "z"
    refine z_ixT (SqT.of ha1) (atI_of (n := 0) (v := .str "turn") rfl rfl) ?_
    walk_at "z"
    refine z_yes rfl ?_
    walk_at "z"
    refine z_methR h1.S.ob noS_turn ?_
    walk_at "z"
    refine z_ixT (SqT.of ha1) (atI_of (n := 1) (v := .int r) rfl rfl) ?_
    walk_at "z"
    refine z_ixT (SqT.of ha1) (atI_of (n := 2) (v := .int m) rfl rfl) ?_
    walk_at "z"
    exact ⟨x, [r, m], _, rfl, rfl, rfl, h1, hk, q1⟩
  | cut r m =>
    refine z_ixT (SqT.of ha1) (atI_of (n := 0) (v := .str "cut") rfl rfl) ?_
    walk_at "z"
    refine z_no (by decide) ?_
    walk_at "z"
    refine z_ixT (SqT.of ha1) (atI_of (n := 0) (v := .str "cut") rfl rfl) ?_
    walk_at "z"
    refine z_no (by decide) ?_
    walk_at "z"
    refine z_ixT (SqT.of ha1) (atI_of (n := 0) (v := .str "cut") rfl rfl) ?_
    walk_at "z"
    refine z_no (by decide) ?_
    walk_at "z"
    refine z_ixT (SqT.of ha1) (atI_of (n := 0) (v := .str "cut") rfl rfl) ?_
    walk_at "z"
    refine z_no (by decide) ?_
    walk_at "z"
    refine z_ixT (SqT.of ha1) (atI_of (n := 0) (v := .str "cut") rfl rfl) ?_
    walk_at "z"
    refine z_yes rfl ?_
    walk_at "z"
    refine z_methR h1.S.ob noS_cut ?_
    walk_at "z"
    refine z_ixT (SqT.of ha1) (atI_of (n := 1) (v := .int r) rfl rfl) ?_
    walk_at "z"
    refine z_ixT (SqT.of ha1) (atI_of (n := 2) (v := .int m) rfl rfl) ?_
    walk_at "z"
    exact ⟨x, [r, m], _, rfl, rfl, rfl, h1, hk, q1⟩
  | fuse r m =>
    refine z_ixT (SqT.of ha1) (atI_of (n := 0) (v := .str "fuse") rfl rfl) ?_
    walk_at "z"
    refine z_no (by decide) ?_
    walk_at "z"
    refine z_ixT (SqT.of ha1) (atI_of (n := 0) (v := .str "fuse") rfl rfl) ?_
    walk_at "z"
    refine z_no (by decide) ?_
    walk_at "z"
    refine z_ixT (SqT.of ha1) (atI_of (n := 0) (v := .str "fuse") rfl rfl) ?_
    walk_at "z"
    refine z_no (by decide) ?_
    walk_at "z"
    refine z_ixT (SqT.of ha1) (atI_of (n := 0) (v := .str "fuse") rfl rfl) ?_
    walk_at "z"
    refine z_no (by decide) ?_
    walk_at "z"
    refine z_ixT (SqT.of ha1) (atI_of (n := 0) (v := .str "fuse") rfl rfl) ?_
    walk_at "z"
    refine z_no (by decide) ?_
    walk_at "z"
    refine z_ixT (SqT.of ha1) (atI_of (n := 0) (v := .str "fuse") rfl rfl) ?_
    walk_at "z"
    refine z_yes rfl ?_
    walk_at "z"
    refine z_methR h1.S.ob noS_fuse ?_
    walk_at "z"
    refine z_ixT (SqT.of ha1) (atI_of (n := 1) (v := .int r) rfl rfl) ?_
    walk_at "z"
    refine z_ixT (SqT.of ha1) (atI_of (n := 2) (v := .int m) rfl rfl) ?_
    walk_at "z"
    exact ⟨x, [r, m], _, rfl, rfl, rfl, h1, hk, q1⟩
  | sell r =>
    refine z_ixT (SqT.of ha1) (atI_of (n := 0) (v := .str "sell") rfl rfl) ?_
    walk_at "z"
    refine z_no (by decide) ?_
    walk_at "z"
    refine z_ixT (SqT.of ha1) (atI_of (n := 0) (v := .str "sell") rfl rfl) ?_
    walk_at "z"
    refine z_no (by decide) ?_
    walk_at "z"
    refine z_ixT (SqT.of ha1) (atI_of (n := 0) (v := .str "sell") rfl rfl) ?_
    walk_at "z"
    refine z_no (by decide) ?_
    walk_at "z"
    refine z_ixT (SqT.of ha1) (atI_of (n := 0) (v := .str "sell") rfl rfl) ?_
    walk_at "z"
    refine z_no (by decide) ?_
    walk_at "z"
    refine z_ixT (SqT.of ha1) (atI_of (n := 0) (v := .str "sell") rfl rfl) ?_
    walk_at "z"
    refine z_no (by decide) ?_
    walk_at "z"
    refine z_ixT (SqT.of ha1) (atI_of (n := 0) (v := .str "sell") rfl rfl) ?_
    walk_at "z"
    refine z_no (by decide) ?_
    walk_at "z"
    refine z_ixT (SqT.of ha1) (atI_of (n := 0) (v := .str "sell") rfl rfl) ?_
    walk_at "z"
    refine z_yes rfl ?_
    walk_at "z"
    refine z_methR h1.S.ob noS_sell ?_
    walk_at "z"
    refine z_ixT (SqT.of ha1) (atI_of (n := 1) (v := .int r) rfl rfl) ?_
    walk_at "z"
    exact ⟨x, [r], _, rfl, rfl, rfl, h1, hk, q1⟩
  | waste r =>
    refine z_ixT (SqT.of ha1) (atI_of (n := 0) (v := .str "waste") rfl rfl) ?_
    walk_at "z"
    refine z_no (by decide) ?_
    walk_at "z"
    refine z_ixT (SqT.of ha1) (atI_of (n := 0) (v := .str "waste") rfl rfl) ?_
    walk_at "z"
    refine z_no (by decide) ?_
    walk_at "z"
    refine z_ixT (SqT.of ha1) (atI_of (n := 0) (v := .str "waste") rfl rfl) ?_
    walk_at "z"
    refine z_no (by decide) ?_
    walk_at "z"
    refine z_ixT (SqT.of ha1) (atI_of (n := 0) (v := .str "waste") rfl rfl) ?_
    walk_at "z"
    refine z_no (by decide) ?_
    walk_at "z"
    refine z_ixT (SqT.of ha1) (atI_of (n := 0) (v := .str "waste") rfl rfl) ?_
    walk_at "z"
    refine z_no (by decide) ?_
    walk_at "z"
    refine z_ixT (SqT.of ha1) (atI_of (n := 0) (v := .str "waste") rfl rfl) ?_
    walk_at "z"
    refine z_no (by decide) ?_
    walk_at "z"
    refine z_ixT (SqT.of ha1) (atI_of (n := 0) (v := .str "waste") rfl rfl) ?_
    walk_at "z"
    refine z_no (by decide) ?_
    walk_at "z"
    refine z_methR h1.S.ob noS_waste ?_
    walk_at "z"
    refine z_ixT (SqT.of ha1) (atI_of (n := 1) (v := .int r) rfl rfl) ?_
    walk_at "z"
    exact ⟨x, [r], _, rfl, rfl, rfl, h1, hk, q1⟩
abbrev n_law_done : List Str := ["_law_shop", "_law_deed_here", "_law_told", "_law_word"]
abbrev p_law_done : List Str := ["_law_shop", "_law_deed_here"]
theorem sc_law_done : FnScope n_law_done p_law_done (defScope s_law_done) := ⟨rfl, rfl, rfl, by decide +kernel, rfl, by decide +kernel, by decide +kernel⟩
theorem ok__law_done {P : Program} {w : World} {K : PySem.W.Frag} {mg : Str → Option Value} {base : Heap} (T : Tx w K mg) : Fk P w K mg base 19 (He.ga K "_law_done") p_law_done (spDone K) := by
  have GShop_do := ok_Shop_do (P := P) (w := w) (base := base) T
  refine Fk.mk' T.f_law_done sc_law_done (fun _ _ _ _ _ _ us hl => match us, hl with | [_, _], _ => rfl) (by
  intro vs H Q E h
  repeat (first | (obtain ⟨h1, _⟩ := h; subst h1; rfl) | (obtain ⟨_, h⟩ := h))) (fun cdv A outer s H vs Q E hr h => ?_)
  have hu := hu_of hr
  have hu64 := hr.units
  refine ⟨_, (pss_cons (ps_set (i := 2) sc_law_done.nd rfl (Or.inl rfl) pe_non)
  (pss_cons (ps_set (i := 3) sc_law_done.nd rfl (Or.inl rfl) pe_str)
  (pss_cons (ps_try_only rfl rfl ⟨rfl, by decide, .inl T.gGlassError⟩ takesX (fun W pn xe tk hpo => (pss_one (ps_set (i := 2) sc_law_done.nd rfl (Or.inl rfl) (q_methS (pv 0) T.cShop T.mShop_do GShop_do (hr.mono (by omega)) (fun σ => passAt tk σ) (by exact (pa_cons (pv 1) pa_nil)))))) (fun a oe cls d pn _ _ => (pss_one (ps_set (i := 3) sc_law_done.nd rfl (Or.inl rfl) pe_str))))
  (pss_one (ps_ret (pe_tup (pa_cons (pv 3) (pa_cons (pv 2) pa_nil)))))))), ?_⟩
  try dsimp only [cxOf]
  obtain ⟨x, t, dd, rfl, hx, hk, ht, q⟩ := h
  walk_at "z"
  refine ⟨_, _, _, rfl, hx.S.ob, noS_do, ?_⟩
  walk_at "z"
  refine ⟨x, t, dd.vals, dd.items, rfl, ht, .cons (.str _) (DvAll.ints _), items_is dd, hx, hk, fun hb H' s => ?_, fun dd' e hd => ?_⟩
  · refine ⟨true, T.xBadDeed_GlassError, fun _ a _ => ?_, fun z => by cases z⟩
    walk_at "z"
    walk_at "zt"
    rename_i t3 nt3 H3 s3 f3
    exact q H3 t3 x (hx.same (s.trans s3)) (Gone.refl (s.trans s3)) (Nat.le_succ _) (.inl ⟨f3, rfl, .inl hb⟩)
  · obtain rfl := items_inj e
    refine ⟨fun c hc H' s => ?_, fun hr H' y hy g e1 e2 e3 e4 e5 => ?_⟩
    · have hb : PySem.W.exmOne K (.ref (He.ga K c)) (.ref (He.ga K "GlassError")) = some true := by
        have hi := refuse_in hc
        simp only [List.mem_cons, List.not_mem_nil, or_false] at hi
        rcases hi with rfl | rfl | rfl | rfl | rfl | rfl | rfl | rfl | rfl | rfl
        · exact T.xBadColour_GlassError
        · exact T.xBadThickness_GlassError
        · exact T.xBadLength_GlassError
        · exact T.xNoRod_GlassError
        · exact T.xBadSteps_GlassError
        · exact T.xTooThin_GlassError
        · exact T.xTwice_GlassError
        · exact T.xUnlike_GlassError
        · exact T.xTooThick_GlassError
        · exact T.xBadTurn_GlassError
      refine ⟨true, hb, fun _ a _ => ?_, fun z => by cases z⟩
      walk_at "z"
      walk_at "zt"
      rename_i t3 nt3 H3 s3 f3
      exact q H3 t3 x (hx.same (s.trans s3)) (Gone.refl (s.trans s3)) (Nat.le_succ _) (.inl ⟨f3, rfl, .inr (by rw [hc]; rfl)⟩)
    · walk_at "z"
      walk_at "zt"
      rename_i t3 nt3 H3 s3 f3
      exact q H3 t3 y (hy.same s3) (g.trans (Gone.refl s3)) (by omega) (.inr ⟨f3, hd, hr, e1, e2, e3, e4, e5⟩)
def spRow : Sp := fun vs H Q _ => ∃ (z : Int) (m : Nat) (b : Int), vs = [.int z, .int (m : Nat), .int b] ∧ m ≤ 1000 ∧ 0 < b ∧ b < 100000000000 ∧ ∀ H' l, Same H H' → H l = none → H' l = some (.lst ((rowI z m b).map V.int)) → Q (.ref l) H'
abbrev n_law_row : List Str := ["_law_cell_here", "_law_many", "_law_base", "_law_found", "_law_k", "_law_turn"]
abbrev p_law_row : List Str := ["_law_cell_here", "_law_many", "_law_base"]
theorem sc_law_row : FnScope n_law_row p_law_row (defScope s_law_row) := ⟨rfl, rfl, rfl, by decide +kernel, rfl, by decide +kernel, by decide +kernel⟩
theorem ok__law_row {P : Program} {w : World} {K : PySem.W.Frag} {mg : Str → Option Value} {base : Heap} (T : Tx w K mg) : Fk P w K mg base 1 (He.ga K "_law_row") p_law_row (spRow) := by
  refine Fk.mk' T.f_law_row sc_law_row (fun _ _ _ _ _ _ us hl => match us, hl with | [_, _, _], _ => rfl) (by
  intro vs H Q E h
  repeat (first | (obtain ⟨h1, _⟩ := h; subst h1; rfl) | (obtain ⟨_, h⟩ := h))) (fun cdv A outer s H vs Q E hr h => ?_)
  have hu := hu_of hr
  have hu64 := hr.units
  refine ⟨_, (pss_cons (ps_set (i := 3) sc_law_row.nd rfl (Or.inl rfl) (pe_lst pa_nil))
  (pss_cons (ps_set (i := 0) sc_law_row.nd rfl (Or.inl rfl) (pe_callB call_absU (by rfl) T.uabs (by decide +kernel) (pa_cons (pv 0) pa_nil)))
  (pss_cons (ps_if (pt_cmpR op_ge (pv 0) (pe_op op_pow pe_int pe_int) (nomark _)) (pss_cons (ps_for (passes_of rfl) rfl (pi_range1 (by rfl) T.urange (pa_cons (pv 1) pa_nil)) (pg_name (i := 4) sc_law_row.nd rfl (Or.inl rfl)) (pss_cons (ps_expr (k_bm K PySem.F.plainAttrs_list PySem.F.slot_list_append PySem.F.type_list_append mt_append (pv 3) (pa_cons (pe_op op_mod (pv 0) (pv 2)) pa_nil)))
  (pss_one (ps_set (i := 0) sc_law_row.nd rfl (Or.inl rfl) (pe_op op_fdivW (pv 0) (pv 2))))))
  (pss_one (ps_ret (pv 3)))) pss_nil)
  (pss_cons (ps_set (i := 5) sc_law_row.nd rfl (Or.inl rfl) (pe_op op_mod (pe_op op_mulU (pe_op (k_add K) (pe_op op_mod (pv 0) pe_int) pe_int) pe_int) pe_int))
  (pss_cons (ps_for (passes_of rfl) rfl (pi_range1 (by rfl) T.urange (pa_cons (pv 1) pa_nil)) (pg_name (i := 4) sc_law_row.nd rfl (Or.inl rfl)) (pss_cons (ps_set (i := 5) sc_law_row.nd rfl (Or.inl rfl) (pe_op op_mod (pe_op (k_add K) (pe_op (k_add K) (pe_op op_mulU (pv 5) pe_int) (pe_op op_mulU pe_int (pv 4))) pe_int) pe_int))
  (pss_one (ps_expr (k_bm K PySem.F.plainAttrs_list PySem.F.slot_list_append PySem.F.type_list_append mt_append (pv 3) (pa_cons (pe_op op_mod (pe_op op_fdivW (pv 5) pe_int) (pv 2)) pa_nil))))))
  (pss_one (ps_ret (pv 3)))))))), ?_⟩
  try dsimp only [cxOf]
  obtain ⟨z, m, b, rfl, hm, hb, hb2, q⟩ := h
  walk_at "z"
  walk_at "zt"
  rename_i L nL H1 s1 f1
  walk_at "z"
  refine z_I ⟨by decide, by decide, by decide⟩ ?_
  walk_at "z"
  have ea : (if z < 0 then -z else z) = absI z := rfl
  rw [ea]
  unfold rowI at q
  refine z_ite (fun c => ?_) (fun c => ?_)
  · have c' : (1000000000000000000 : Int) ≤ absI z := c
    rw [if_pos c'] at q
    generalize absI z = a at q
    walk_at "z"
    refine ⟨_, rfl, by omega, by omega, ?_⟩
    rw [Int.toNat_natCast]
    refine for_range (fun i σ H' => Same H H' ∧ H' L = some (.lst ((List.range i).map fun j : Nat => V.int (zsI b j a % b))) ∧ ∃ k, σ = [some (.int (zsI b i a)), some (.int (m : Nat)), some (.int b), some (.ref L), k, none]) ⟨s1, f1, none, rfl⟩ ?_ ?_
    · rintro i σ H' hi ⟨s2, f2, k, rfl⟩
      walk_at "z"
      refine z_tyL (SqL.of f2) ?_
      walk_at "z"
      refine z_I hb ?_
      walk_at "z"
      refine z_app f2 (by simp; exact szlt (by omega)) ?_
      walk_at "z"
      refine z_I (divW hb (by omega)) ?_
      walk_at "z"
      exact ⟨s2.set nL, by rw [upd_same, List.range_succ, List.map_append]; rfl, _, rfl⟩
    · rintro σ H' ⟨s2, f2, k, rfl⟩
      walk_at "z"
      exact q H' L s2 nL (by rw [f2, List.map_map]; rfl)
  · have c' : ¬ (1000000000000000000 : Int) ≤ absI z := c
    rw [if_neg c'] at q
    generalize absI z = a at q
    walk_at "z"
    refine z_I (by decide) ?_
    walk_at "z"
    have h0 := Int.emod_nonneg a (show (1000003 : Int) ≠ 0 by decide)
    have h1 := Int.emod_lt_of_pos a (show (0 : Int) < 1000003 by decide)
    refine z_mulI (mulS (by omega) (by decide)) ?_
    walk_at "z"
    refine z_I (by decide) ?_
    walk_at "z"
    have g0 := Int.emod_nonneg ((a % 1000003 + 17) * 69621) (show (2147483647 : Int) ≠ 0 by decide)
    have g1 := Int.emod_lt_of_pos ((a % 1000003 + 17) * 69621) (show (0 : Int) < 2147483647 by decide)
    generalize (a % 1000003 + 17) * 69621 % 2147483647 = t at q g0 g1 ⊢
    refine ⟨_, rfl, by omega, by omega, ?_⟩
    rw [Int.toNat_natCast]
    refine for_range (fun i σ H' => Same H H' ∧ H' L = some (.lst ((List.range i).map fun j : Nat => V.int (tsI (j + 1) t / 1021 % b))) ∧ ∃ k, σ = [some (.int a), some (.int (m : Nat)), some (.int b), some (.ref L), k, some (.int (tsI i t))]) ⟨s1, f1, none, rfl⟩ ?_ ?_
    · rintro i σ H' hi ⟨s2, f2, k, rfl⟩
      have hr := ts_rg g0 g1 i
      walk_at "z"
      refine z_mulI (mulS (by omega) (by decide)) ?_
      walk_at "z"
      refine z_mulI (mulS (by decide) (by omega)) ?_
      walk_at "z"
      refine z_I (by decide) ?_
      walk_at "z"
      refine z_tyL (SqL.of f2) ?_
      walk_at "z"
      refine z_I (divW (by decide) (by decide)) ?_
      walk_at "z"
      refine z_I hb ?_
      walk_at "z"
      refine z_app f2 (by simp; exact szlt (by omega)) ?_
      walk_at "z"
      have e0 : (0 : Int) + (i : Nat) = (i : Nat) := Int.zero_add _
      rw [e0]
      exact ⟨s2.set nL, by rw [upd_same, List.range_succ, List.map_append]; rfl, _, rfl⟩
    · rintro σ H' ⟨s2, f2, k, rfl⟩
      walk_at "z"
      exact q H' L s2 nL (by rw [f2, List.map_map]; rfl)
def spMenu : Sp := fun vs H Q _ => ∃ f : Int, vs = [.int f] ∧ ∀ H' w, Same H H' → w ∈ menuN → Q (.str w) H'
abbrev n_law_menu : List Str := ["_law_figure", "_law_some"]
abbrev p_law_menu : List Str := ["_law_figure"]
theorem sc_law_menu : FnScope n_law_menu p_law_menu (defScope s_law_menu) := ⟨rfl, rfl, rfl, by decide +kernel, rfl, by decide +kernel, by decide +kernel⟩
theorem ok__law_menu {P : Program} {w : World} {K : PySem.W.Frag} {mg : Str → Option Value} {base : Heap} (T : Tx w K mg) : Fk P w K mg base 1 (He.ga K "_law_menu") p_law_menu (spMenu) := by
  refine Fk.mk' T.f_law_menu sc_law_menu (fun _ _ _ _ _ _ us hl => match us, hl with | [_], _ => rfl) (by
  intro vs H Q E h
  repeat (first | (obtain ⟨h1, _⟩ := h; subst h1; rfl) | (obtain ⟨_, h⟩ := h))) (fun cdv A outer s H vs Q E hr h => ?_)
  have hu := hu_of hr
  have hu64 := hr.units
  refine ⟨_, (pss_cons (ps_set (i := 1) sc_law_menu.nd rfl (Or.inl rfl) (pe_lst (pa_cons pe_str (pa_cons pe_str (pa_cons pe_str (pa_cons pe_str (pa_cons pe_str (pa_cons pe_str (pa_cons pe_str (pa_cons pe_str (pa_cons pe_str (pa_cons pe_str (pa_cons pe_str pa_nil)))))))))))))
  (pss_cons (ps_set (i := 1) sc_law_menu.nd rfl (Or.inl rfl) (pe_op (k_add K) (pv 1) (pe_lst (pa_cons pe_str (pa_cons pe_str (pa_cons pe_str (pa_cons pe_str (pa_cons pe_str (pa_cons pe_str (pa_cons pe_str (pa_cons pe_str (pa_cons pe_str pa_nil))))))))))))
  (pss_one (ps_ret (k_ix K (pv 1) (pe_op op_mod (pv 0) pe_int) (fun _ _ => rfl)))))), ?_⟩
  try dsimp only [cxOf]
  obtain ⟨f, rfl, q⟩ := h
  walk_at "z"
  walk_at "zt"
  rename_i l1 n1 H1 s1 f1
  walk_at "z"
  walk_at "zt"
  rename_i l2 n2 H2 s2 f2
  refine z_addL (s2 _ _ f1) f2 (sz1000 (by simp)) ?_
  walk_at "zn"
  rename_i l3 n3 H3 s3 f3
  walk_at "z"
  refine z_I (by decide) ?_
  have h0 : 0 ≤ f % 20 := Int.emod_nonneg _ (by decide)
  have h1 : f % 20 < 20 := Int.emod_lt_of_pos _ (by decide)
  obtain ⟨i, hi⟩ : ∃ i : Nat, f % 20 = (i : Nat) := ⟨(f % 20).toNat, by omega⟩
  rw [hi]
  have key : ∀ i : Nat, i < 20 → ∃ w, ([V.str "gather", .str "bundle", .str "turn", .str "bundle", .str "pull", .str "gather", .str "bundle", .str "cut", .str "gather", .str "bundle", .str "fuse"] ++ [V.str "gather", .str "bundle", .str "turn", .str "sell", .str "pull", .str "gather", .str "fuse", .str "cut", .str "waste"])[i]? = some (.str w) ∧ w ∈ menuN := by
    intro i hi
    have : i = 0 ∨ i = 1 ∨ i = 2 ∨ i = 3 ∨ i = 4 ∨ i = 5 ∨ i = 6 ∨ i = 7 ∨ i = 8 ∨ i = 9 ∨ i = 10 ∨ i = 11 ∨ i = 12 ∨ i = 13 ∨ i = 14 ∨ i = 15 ∨ i = 16 ∨ i = 17 ∨ i = 18 ∨ i = 19 := by omega
    rcases this with rfl | rfl | rfl | rfl | rfl | rfl | rfl | rfl | rfl | rfl | rfl | rfl | rfl | rfl | rfl | rfl | rfl | rfl | rfl | rfl <;> exact ⟨_, rfl, by simp [menuN]⟩
  obtain ⟨w, hw, hm⟩ := key i (by omega)
  exact z_ixL (SqL.of f3) (atI_of hw rfl) (q H3 w (s1.trans (s2.trans s3)) hm)
def spFourOf (K : PySem.W.Frag) : Sp := fun vs H Q _ => ∃ lr vr rs t, ∃ r : Rod, ∃ la, ∃ ps : List Int, vs = [.ref lr, .ref t, .ref la] ∧ H lr = some (.lst vr) ∧ DvAll H vr (rowsD rs) ∧ rs.length ≤ 1000 ∧ H t = some (.tup [.int r.n, .int r.f, .int r.t, .int r.l]) ∧ H la = some (.lst (ps.map V.int)) ∧ ps.length = 12 ∧
  ∀ H' a t' b c d, Same H H' → H' a = some (.tup [.int t', .int b, .int c, .int d]) → Q (.ref a) H'
abbrev n_law_four_of : List Str := ["_law_rows", "_law_one", "_law_parts", "_law_row_here", "_law_same", "_law_k", "_law_some"]
abbrev p_law_four_of : List Str := ["_law_rows", "_law_one", "_law_parts"]
theorem sc_law_four_of : FnScope n_law_four_of p_law_four_of (defScope s_law_four_of) := ⟨rfl, rfl, rfl, by decide +kernel, rfl, by decide +kernel, by decide +kernel⟩
theorem ok__law_four_of {P : Program} {w : World} {K : PySem.W.Frag} {mg : Str → Option Value} {base : Heap} (T : Tx w K mg) : Fk P w K mg base 1 (He.ga K "_law_four_of") p_law_four_of (spFourOf K) := by
  refine Fk.mk' T.f_law_four_of sc_law_four_of (fun _ _ _ _ _ _ us hl => match us, hl with | [_, _, _], _ => rfl) (by
  intro vs H Q E h
  repeat (first | (obtain ⟨h1, _⟩ := h; subst h1; rfl) | (obtain ⟨_, h⟩ := h))) (fun cdv A outer s H vs Q E hr h => ?_)
  have hu := hu_of hr
  have hu64 := hr.units
  refine ⟨_, (pss_cons (ps_set (i := 4) sc_law_four_of.nd rfl (Or.inr rfl) (pe_lc (own := [("_law_row_here", 3)]) (g := gName 3) rfl sc_law_four_of.nd (k_pil K (pv 0)) (blkOk_by (own := [("_law_row_here", 3)]) (N := n_law_four_of) (sc := defScope s_law_four_of) (by decide +kernel)) (fun _ _ _ _ _ => pg_name (i := 3) sc_law_four_of.nd rfl (Or.inl rfl)) (fun _ _ _ _ _ => pts_one (pt_cmpR (k_eq K hu64) (pe_slice (k_slt K) (pv 3) (po_some pe_int) po_none) (pe_slice (k_slt K) (pv 1) (po_some pe_int) po_none) (nomark _))) (fun _ _ _ _ _ => (k_ix K (pv 3) pe_int (fun _ _ => rfl)))))
  (pss_cons (ps_if (PW.pt (pw_or (pt_cmpR op_lt (pe_callB (k_len K) (by rfl) T.ulen (by decide +kernel) (pa_cons (pv 4) pa_nil)) pe_int (nomark _)) (pw_or1 (pt_cmpR (k_eq K hu64) (k_ix K (pv 2) pe_int (fun _ _ => rfl)) pe_int (nomark _))))) (pss_one (ps_set (i := 4) sc_law_four_of.nd rfl (Or.inr rfl) (pe_op (k_add K) (pe_lc (own := [("_law_row_here", 3)]) (g := gName 3) rfl sc_law_four_of.nd (k_pil K (pv 0)) (blkOk_by (own := [("_law_row_here", 3)]) (N := n_law_four_of) (sc := defScope s_law_four_of) (by decide +kernel)) (fun _ _ _ _ _ => pg_name (i := 3) sc_law_four_of.nd rfl (Or.inl rfl)) (fun _ _ _ _ _ => pts_nil) (fun _ _ _ _ _ => (k_ix K (pv 3) pe_int (fun _ _ => rfl)))) (pe_lst (pa_cons pe_int pa_nil))))) pss_nil)
  (pss_cons (ps_setLc (i := 6) (own := [("_law_k", 5)]) (g := gName 5) rfl sc_law_four_of.nd rfl rfl (sw_true rfl rfl rfl (by decide +kernel)) (pi_range1 (by rfl) T.urange (pa_cons pe_int pa_nil)) (blkOk_by (own := [("_law_k", 5)]) (N := n_law_four_of) (sc := defScope s_law_four_of) (by decide +kernel)) (fun _ _ _ _ _ => pg_name (i := 5) sc_law_four_of.nd rfl (Or.inl rfl)) (fun _ _ _ _ _ => pts_nil) (fun _ _ _ _ _ => (k_ix K (pv 4) (pe_op op_mod (pe_op (k_add K) (k_ix K (pv 2) pe_int (fun _ _ => rfl)) (pv 5)) (pe_callB (k_len K) (by rfl) T.ulen (by decide +kernel) (pa_cons (pv 4) pa_nil))) (fun _ _ => rfl))))
  (pss_cons (ps_if (pt_cmpR (k_eq K hu64) (pe_op op_mod (k_ix K (pv 2) pe_int (fun _ _ => rfl)) pe_int) pe_int (nomark _)) (pss_one (ps_set (i := 6) sc_law_four_of.nd rfl (Or.inl rfl) (k_revL K (pv 6)))) pss_nil)
  (pss_one (ps_ret (pe_callTy (k_tuple K) (by rfl) T.utuple (by decide +kernel) (pa_cons (pv 6) pa_nil)))))))), ?_⟩
  try dsimp only [cxOf]
  obtain ⟨lr, vr, rs, t, r, la, ps, rfl, hlr, hvr, hrs, ht, hla, hps, q⟩ := h
  have hvl := rows_len hvr
  have gp : ∀ i : Nat, i < 12 → atI (ps.map V.int) (i : Nat) = some (.int (ps.getD i 0)) := fun i hi => atI_of (n := i) (by rw [List.getElem?_map, List.getD_eq_getElem?_getD, List.getElem?_eq_getElem (by omega : i < ps.length)]; rfl) rfl
  walk_at "z"
  refine ⟨lr, rfl, ⟨_, SqL.of hlr⟩, fun L1 hL1 => ?_⟩
  refine lc_list (K := K) (a := lr) (xs := vr) (fun i H' => Same H H' ∧ ∃ ns : List Int, H' L1 = some (.lst (ns.map V.int)) ∧ ns.length ≤ i) ⟨Same.new hL1, [], upd_same, Nat.le_refl _⟩ (fun i H' _ h => SqL.of (h.1 _ _ hlr)) ?_ ?_
  · rintro i v H1 hi ⟨s1, ns, f1, l1⟩
    obtain ⟨r1, t1, e1, rfl, ht1⟩ := row_at (dvAll_same s1 hvr) hi
    have hil := (List.getElem?_eq_some_iff.mp hi).1
    walk_at "zw"
    walk_at "z"
    refine ⟨rfl, ?_⟩
    walk_at "z"
    refine z_slT ht1 (cut_from _ 2) ?_
    intro p2 H2 s2 f2
    walk_at "z"
    refine z_slT (s2 _ _ (s1 _ _ ht)) (cut_from _ 2) ?_
    intro p3 H3 s3 f3
    refine z_eqDv (d := .tuple [.int r1.t, .int r1.l]) (e := .tuple [.int r.t, .int r.l]) (.tup (s3 _ _ f2) (.cons (.int _) (.cons (.int _) .nil))) (.tup f3 (.cons (.int _) (.cons (.int _) .nil))) rfl rfl ?_
    generalize PyData.eqv (.tuple [.int r1.t, .int r1.l]) (.tuple [.int r.t, .int r.l]) = bb
    have s13 := s1.trans (s2.trans s3)
    have f13 := s3 _ _ (s2 _ _ f1)
    walk_at "z"
    cases bb with
    | false =>
      refine iteF ?_
      exact ⟨s13, ns, f13, by omega⟩
    | true =>
      refine iteT ?_
      walk_at "z"
      refine z_ixT (SqT.of (s3 _ _ (s2 _ _ ht1))) (atI_of (n := 0) rfl rfl) ?_
      refine ⟨_, f13, szlt (by rw [List.length_map]; omega), s13.set hL1, ns ++ [r1.n], by rw [upd_same, List.map_append]; rfl, by simp; omega⟩
  · rintro H1 ⟨s1, ns, f1, l1⟩
    walk_at "y"
    refine z_joinIf (R := fun σ' H' => ∃ L2 : Addr, ∃ ns2 : List Int, ∃ y3 y5 y6, σ' = [some (.ref lr), some (.ref t), some (.ref la), y3, some (.ref L2), y5, y6] ∧ Same H H' ∧ H' L2 = some (.lst (ns2.map V.int)) ∧ 0 < ns2.length ∧ ns2.length ≤ 2000) (fun D' k rt => ?_) ?_
    · walk_at "z"
      refine z_lenL (SqL.of f1) ?_
      rw [List.length_map]
      have alt : ∀ (y3 y5 y6 : Option V), tAsg (tOp (rAddU K) (tLc (iList K (tVar 0)) (gName 3) tYes (tOp (rIx K) (tVar 3) (tC (.int 0))) [3]) (tLst (tCons (tC (.int 0)) tNil))) (gName 4) D' [some (.ref lr), some (.ref t), some (.ref la), y3, some (.ref L1), y5, y6] H1 := by
        intro y3 y5 y6
        walk_at "z"
        refine ⟨lr, rfl, ⟨_, SqL.of (s1 _ _ hlr)⟩, fun L2 hL2 => ?_⟩
        refine lc_list (K := K) (a := lr) (xs := vr) (fun i H' => Same H1 H' ∧ ∃ ns : List Int, H' L2 = some (.lst (ns.map V.int)) ∧ ns.length = i) ⟨Same.new hL2, [], upd_same, rfl⟩ (fun i H' _ h => SqL.of (h.1 _ _ (s1 _ _ hlr))) ?_ ?_
        · rintro i v H2 hi ⟨s2, ns2, f2, l2⟩
          obtain ⟨r2, t2, e2, rfl, ht2⟩ := row_at (dvAll_same (s1.trans s2) hvr) hi
          have hil := (List.getElem?_eq_some_iff.mp hi).1
          walk_at "zw"
          walk_at "z"
          refine ⟨rfl, ?_⟩
          walk_at "z"
          refine z_ixT (SqT.of ht2) (atI_of (n := 0) rfl rfl) ?_
          refine ⟨_, f2, szlt (by rw [List.length_map]; omega), s2.set hL2, ns2 ++ [r2.n], by rw [upd_same, List.map_append]; rfl, by simp [l2]⟩
        · rintro H2 ⟨s2, ns2, f2, l2⟩
          walk_at "z"
          walk_at "zt"
          rename_i L3 n3 H3 s3 f3
          refine z_addL (s3 _ _ f2) f3 (by rw [List.length_map]; exact sz1000 (by simp; omega)) ?_
          walk_at "zn"
          rename_i L4 n4 H4 s4 f4
          walk_at "z"
          refine k _ _ ⟨L4, ns2 ++ [0], _, _, _, rfl, s1.trans (s2.trans (s3.trans s4)), by rw [f4, List.map_append]; rfl, by simp, by simp; omega⟩
      walk_at "y"
      refine z_ite (fun c => ?_) (fun c => ?_)
      · repeat (first | exact alt _ _ _ | walk_at "y1")
      · walk_at "z"
        refine z_ixL (SqL.of (s1 _ _ hla)) (gp 5 (by decide)) ?_
        walk_at "z"
        refine z_ite (fun c5 => ?_) (fun c5 => ?_)
        · repeat (first | exact alt _ _ _ | walk_at "y1")
        · walk_at "z"
          exact k _ _ ⟨L1, ns, _, _, _, rfl, s1, f1, by omega, by omega⟩
    · rintro σ' H2 ⟨L2, ns2, y3, y5, y6, rfl, s2, f2, l2, l3⟩
      walk_at "z"
      refine ⟨_, rfl, by decide, by decide, fun L3 hL3 => ?_⟩
      refine lc_range (lo := 0) (n := 4) (fun i H' => Same H2 H' ∧ ∃ ns3 : List Int, H' L3 = some (.lst (ns3.map V.int)) ∧ ns3.length = i) ⟨Same.new hL3, [], upd_same, rfl⟩ ?_ ?_
      · rintro i H3 hi ⟨s3, ns3, f3, l3'⟩
        walk_at "zw"
        walk_at "z"
        refine ⟨rfl, ?_⟩
        walk_at "z"
        refine z_ixL (SqL.of (s3 _ _ (s2 _ _ hla))) (gp 6 (by decide)) ?_
        walk_at "z"
        refine z_lenL (SqL.of (s3 _ _ f2)) ?_
        rw [List.length_map]
        walk_at "z"
        refine z_I (by omega) ?_
        generalize ps.getD 6 0 + (0 + ((i : Nat) : Int)) = zz
        have h0 : 0 ≤ zz % ((ns2.length : Nat) : Int) := Int.emod_nonneg _ (by omega)
        have h1 : zz % ((ns2.length : Nat) : Int) < ns2.length := Int.emod_lt_of_pos _ (by omega)
        obtain ⟨j, hj⟩ : ∃ j : Nat, zz % ((ns2.length : Nat) : Int) = (j : Nat) := ⟨_, (Int.toNat_of_nonneg h0).symm⟩
        rw [hj] at h1 ⊢
        refine z_ixL (SqL.of (s3 _ _ f2)) (atI_of (n := j) (v := .int (ns2.getD j 0)) (by rw [List.getElem?_map, List.getD_eq_getElem?_getD, List.getElem?_eq_getElem (by omega : j < ns2.length)]; rfl) rfl) ?_
        refine ⟨_, f3, szlt (by rw [List.length_map]; omega), s3.set hL3, ns3 ++ [ns2.getD j 0], by rw [upd_same, List.map_append]; rfl, by simp [l3']⟩
      · rintro H3 ⟨s3, ns3, f3, l3'⟩
        have s03 := s2.trans s3
        walk_at "y"
        refine z_joinIf (R := fun σ' H' => ∃ L4 : Addr, ∃ ns4 : List Int, ∃ y3 y4 y5, σ' = [some (.ref lr), some (.ref t), some (.ref la), y3, y4, y5, some (.ref L4)] ∧ Same H H' ∧ H' L4 = some (.lst (ns4.map V.int)) ∧ ns4.length = 4) (fun D' k rt => ?_) ?_
        · walk_at "z"
          refine z_ixL (SqL.of (s03 _ _ hla)) (gp 7 (by decide)) ?_
          walk_at "z"
          refine z_I (by decide) ?_
          walk_at "z"
          refine z_ite (fun c => ?_) (fun c => ?_)
          · walk_at "y"
            refine z_revLR (SqL.of f3) ?_
            walk_at "zn"
            rename_i L4 n4 H4 s4 f4
            walk_at "z"
            exact k _ _ ⟨L4, ns3.reverse, _, _, _, rfl, s03.trans s4, by rw [f4, List.map_reverse], by simp [l3']⟩
          · walk_at "z"
            exact k _ _ ⟨L3, ns3, _, _, _, rfl, s03, f3, l3'⟩
        · rintro σ' H4 ⟨L4, ns4, y3, y4, y5, rfl, s4, f4, l4⟩
          obtain ⟨a, b, c, d, rfl⟩ := four4 l4
          walk_at "z"
          refine z_tupL (SqL.of f4) ?_
          walk_at "zn"
          rename_i L5 n5 H5 s5 f5
          exact q H5 L5 a b c d (s4.trans s5) f5
def spDrawn (K : PySem.W.Frag) : Sp := fun vs H Q _ => ∃ lr vr rs w, ∃ z : Int, vs = [.ref lr, .str w, .int z] ∧ H lr = some (.lst vr) ∧ DvAll H vr (rowsD rs) ∧ rs.length ≤ 1000 ∧ (∀ r ∈ rs, 1 ≤ r.l) ∧ w ∈ menuN ∧ ∀ H' a, ∀ dd : Deed, Same H H' → H' a = some (.tup dd.vals) → dd.name = (if rs = [] then ("gather" : Str) else w) → Q (.ref a) H'
abbrev n_law_deed : List Str := ["_law_rows", "_law_word", "_law_cell_here", "_law_parts", "_law_thickness", "_law_one", "_law_row_here", "_law_same"]
abbrev p_law_deed : List Str := ["_law_rows", "_law_word", "_law_cell_here"]
theorem sc_law_deed : FnScope n_law_deed p_law_deed (defScope s_law_deed) := ⟨rfl, rfl, rfl, by decide +kernel, rfl, by decide +kernel, by decide +kernel⟩
theorem ok__law_deed {P : Program} {w : World} {K : PySem.W.Frag} {mg : Str → Option Value} {base : Heap} (T : Tx w K mg) : Fk P w K mg base 2 (He.ga K "_law_deed") p_law_deed (spDrawn K) := by
  have G_law_row := ok__law_row (P := P) (w := w) (base := base) T
  have G_law_four_of := ok__law_four_of (P := P) (w := w) (base := base) T
  refine Fk.mk' T.f_law_deed sc_law_deed (fun _ _ _ _ _ _ us hl => match us, hl with | [_, _, _], _ => rfl) (by
  intro vs H Q E h
  repeat (first | (obtain ⟨h1, _⟩ := h; subst h1; rfl) | (obtain ⟨_, h⟩ := h))) (fun cdv A outer s H vs Q E hr h => ?_)
  have hu := hu_of hr
  have hu64 := hr.units
  refine ⟨_, (pss_cons (ps_set (i := 3) sc_law_deed.nd rfl (Or.inl rfl) (q_call G_law_row (hr.mono (by omega)) T.g_law_row passX (pa_cons (pv 2) (pa_cons pe_int (pa_cons pe_int pa_nil)))))
  (pss_cons (ps_if (PW.pt (pw_or (pt_cmpR (k_eq K hu64) (pv 1) pe_str (nomark _)) (pw_or1 (pt_cmpR (k_eq K hu64) (pv 0) (pe_lst pa_nil) (nomark _))))) (pss_cons (ps_set (i := 4) sc_law_deed.nd rfl (Or.inl rfl) (k_ix K (pe_tup (pa_cons pe_int (pa_cons pe_int (pa_cons pe_int (pa_cons pe_int (pa_cons pe_int (pa_cons pe_int (pa_cons pe_int (pa_cons pe_int (pa_cons pe_int (pa_cons pe_int pa_nil))))))))))) (k_ix K (pv 3) pe_int (fun _ _ => rfl)) (fun _ _ => rfl)))
  (pss_one (ps_ret (pe_tup (pa_cons pe_str (pa_cons (k_ix K (pv 3) pe_int (fun _ _ => rfl)) (pa_cons (pv 4) (pa_cons (k_ix K (pe_tup (pa_cons pe_int (pa_cons pe_int (pa_cons pe_int (pa_cons pe_int (pa_cons pe_int (pa_cons pe_int (pa_cons pe_int (pa_cons pe_int (pa_cons pe_int (pa_cons pe_int pa_nil))))))))))) (k_ix K (pv 3) pe_int (fun _ _ => rfl)) (fun _ _ => rfl)) pa_nil)))))))) pss_nil)
  (pss_cons (ps_set (i := 5) sc_law_deed.nd rfl (Or.inr rfl) (k_ix K (pv 0) (pe_op op_mod (pe_op (k_add K) (pe_op op_mulU (k_ix K (pv 3) pe_int (fun _ _ => rfl)) pe_int) (k_ix K (pv 3) pe_int (fun _ _ => rfl))) (pe_callB (k_len K) (by rfl) T.ulen (by decide +kernel) (pa_cons (pv 0) pa_nil))) (fun _ _ => rfl)))
  (pss_cons (ps_if (pt_cmpR (k_eq K hu64) (pv 1) pe_str (nomark _)) (pss_one (ps_ret (pe_op (k_add K) (pe_tup (pa_cons pe_str pa_nil)) (q_call G_law_four_of (hr.mono (by omega)) T.g_law_four_of passX (pa_cons (pv 0) (pa_cons (pv 5) (pa_cons (pv 3) pa_nil))))))) pss_nil)
  (pss_cons (ps_if (pt_cmpR (k_eq K hu64) (pv 1) pe_str (nomark _)) (pss_one (ps_ret (pe_tup (pa_cons pe_str (pa_cons (k_ix K (pv 5) pe_int (fun _ _ => rfl)) (pa_cons (pe_op (k_add K) pe_int (pe_op op_mod (k_ix K (pv 3) pe_int (fun _ _ => rfl)) pe_int)) pa_nil)))))) pss_nil)
  (pss_cons (ps_if (pt_cmpR (k_eq K hu64) (pv 1) pe_str (nomark _)) (pss_one (ps_ret (pe_tup (pa_cons pe_str (pa_cons (k_ix K (pv 5) pe_int (fun _ _ => rfl)) (pa_cons (k_ix K (pv 3) pe_int (fun _ _ => rfl)) pa_nil)))))) pss_nil)
  (pss_cons (ps_if (pt_cmpR (k_eq K hu64) (pv 1) pe_str (nomark _)) (pss_one (ps_ret (pe_tup (pa_cons pe_str (pa_cons (k_ix K (pv 5) pe_int (fun _ _ => rfl)) (pa_cons (pe_op (k_add K) pe_int (pe_op op_mod (pe_op op_mulU (pe_op (k_add K) (pe_op op_mulU (k_ix K (pv 3) pe_int (fun _ _ => rfl)) pe_int) (k_ix K (pv 3) pe_int (fun _ _ => rfl))) (pe_op (k_add K) pe_int (k_ix K (pv 3) pe_int (fun _ _ => rfl)))) (k_ix K (pv 5) pe_int (fun _ _ => rfl)))) pa_nil)))))) pss_nil)
  (pss_cons (ps_if (pt_cmpR (k_eq K hu64) (pv 1) pe_str (nomark _)) (pss_cons (ps_setLc (i := 7) (own := [("_law_row_here", 6)]) (g := gName 6) rfl sc_law_deed.nd rfl rfl (sw_true rfl rfl rfl (by decide +kernel)) (k_pil K (pv 0)) (blkOk_by (own := [("_law_row_here", 6)]) (N := n_law_deed) (sc := defScope s_law_deed) (by decide +kernel)) (fun _ _ _ _ _ => pg_name (i := 6) sc_law_deed.nd rfl (Or.inl rfl)) (fun _ _ _ _ _ => pts_one (PW.pt (pw_and (pt_cmpR (k_eq K hu64) (pe_slice (k_slt K) (pv 6) (po_some pe_int) (po_some pe_int)) (pe_slice (k_slt K) (pv 5) (po_some pe_int) (po_some pe_int)) (nomark _)) (pw_and1 (pt_cmpR (k_ne K hu64) (k_ix K (pv 6) pe_int (fun _ _ => rfl)) (k_ix K (pv 5) pe_int (fun _ _ => rfl)) (nomark _)))))) (fun _ _ _ _ _ => (k_ix K (pv 6) pe_int (fun _ _ => rfl))))
  (pss_cons (ps_if (PW.pt (pw_or (pt_cmpR (k_eq K hu64) (pv 7) (pe_lst pa_nil) (nomark _)) (pw_or1 (pt_cmpR (k_eq K hu64) (k_ix K (pv 3) pe_int (fun _ _ => rfl)) pe_int (nomark _))))) (pss_one (ps_setLc (i := 7) (own := [("_law_row_here", 6)]) (g := gName 6) rfl sc_law_deed.nd rfl rfl (sw_true rfl rfl rfl (by decide +kernel)) (k_pil K (pv 0)) (blkOk_by (own := [("_law_row_here", 6)]) (N := n_law_deed) (sc := defScope s_law_deed) (by decide +kernel)) (fun _ _ _ _ _ => pg_name (i := 6) sc_law_deed.nd rfl (Or.inl rfl)) (fun _ _ _ _ _ => pts_nil) (fun _ _ _ _ _ => (k_ix K (pv 6) pe_int (fun _ _ => rfl))))) pss_nil)
  (pss_one (ps_ret (pe_tup (pa_cons pe_str (pa_cons (k_ix K (pv 5) pe_int (fun _ _ => rfl)) (pa_cons (k_ix K (pv 7) (pe_op op_mod (k_ix K (pv 3) pe_int (fun _ _ => rfl)) (pe_callB (k_len K) (by rfl) T.ulen (by decide +kernel) (pa_cons (pv 7) pa_nil))) (fun _ _ => rfl)) pa_nil)))))))) pss_nil)
  (pss_one (ps_ret (pe_tup (pa_cons (pv 1) (pa_cons (k_ix K (pv 5) pe_int (fun _ _ => rfl)) pa_nil))))))))))))), ?_⟩
  try dsimp only [cxOf]
  obtain ⟨lr, vr, rs, w0, z, rfl, hlr, hvr, hrs, hl, hw, q⟩ := h
  have hvl := rows_len hvr
  walk_at "z"
  refine ⟨z, 12, 10, rfl, by decide, by decide, by decide, fun H1 la s1 n1 f1 => ?_⟩
  have gp : ∀ i : Nat, i < 12 → atI ((rowI z 12 10).map V.int) (i : Nat) = some (.int ((rowI z 12 10).getD i 0)) := fun i hi => atI_row hi rfl
  have rg : ∀ i : Nat, i < 12 → 0 ≤ (rowI z 12 10).getD i 0 ∧ (rowI z 12 10).getD i 0 < 10 := fun i hi => row_getrg (by decide) hi
  have hlen := row_len z 12 10
  generalize rowI z 12 10 = ps at f1 gp rg hlen
  have g2 := gp 2 (by decide)
  have g3 := gp 3 (by decide)
  have g4 := gp 4 (by decide)
  have g5 := gp 5 (by decide)
  have g6 := gp 6 (by decide)
  have r2 := rg 2 (by decide)
  have r3 := rg 3 (by decide)
  have r4 := rg 4 (by decide)
  have r5 := rg 5 (by decide)
  have r6 := rg 6 (by decide)
  generalize ps.getD 2 0 = p2 at g2 r2
  generalize ps.getD 3 0 = p3 at g3 r3
  generalize ps.getD 4 0 = p4 at g4 r4
  generalize ps.getD 5 0 = p5 at g5 r5
  generalize ps.getD 6 0 = p6 at g6 r6
  walk_at "y"
  refine z_if ?_
  refine z_ansS (decide (w0 = "gather" ∨ rs = [])) (fun R hR => ?_) (fun H2 s2 => ?_)
  · walk_at "z"
    refine z_ite (fun c => ?_) (fun c => ?_)
    · walk_at "z"
      have e : decide (w0 = "gather" ∨ rs = []) = true := by simp [c]
      rw [e] at hR
      exact hR _ (Same.refl _)
    · walk_at "z"
      walk_at "zt"
      rename_i e1 ne1 H3 s3 f3
      walk_at "z"
      refine z_eqDv (.lst (s3 _ _ (s1 _ _ hlr)) (dvAll_same (s1.trans s3) hvr)) (.lst f3 .nil) (shaped_rows rs) rfl ?_
      rw [eqv_rows_nil]
      have e : decide (w0 = "gather" ∨ rs = []) = decide (rs = []) := by simp [c]
      rw [e] at hR
      walk_at "z"
      exact hR _ s3
  have s02 := s1.trans s2
  have fp := s2 _ _ f1
  refine z_ite (fun c => ?_) (fun c => ?_)
  · have p2t : ∀ {l : List Int} {j : Int}, l.length = 10 → 0 ≤ j ∧ j < 10 → ∃ v, atI (l.map V.int) j = some (.int v) := fun {l j} hl hj => by
      obtain ⟨i, hi⟩ : ∃ i : Nat, j = (i : Nat) := ⟨j.toNat, by omega⟩
      exact ⟨l.getD i 0, atI_of (n := i) (by rw [List.getElem?_map, List.getD_eq_getElem?_getD, List.getElem?_eq_getElem (by omega : i < l.length)]; rfl) hi⟩
    obtain ⟨v1, hv1⟩ := p2t (l := [0, 1, 1, 2, 2, 3, 4, 6, 11, 12]) rfl r3
    obtain ⟨v2, hv2⟩ := p2t (l := [1, 1, 4, 4, 16, 2, 3, 64, 7, 1000]) rfl r4
    walk_at "z"
    walk_at "zt"
    rename_i t1 nt1 H3 s3 f3
    walk_at "z"
    refine z_ixL (SqL.of (s3 _ _ fp)) g3 ?_
    refine z_ixT (SqT.of f3) hv1 ?_
    walk_at "z"
    refine z_ixL (SqL.of (s3 _ _ fp)) g2 ?_
    walk_at "z"
    walk_at "zt"
    rename_i t2 nt2 H4 s4 f4
    walk_at "z"
    refine z_ixL (SqL.of (s4 _ _ (s3 _ _ fp))) g4 ?_
    refine z_ixT (SqT.of f4) hv2 ?_
    walk_at "z"
    walk_at "zt"
    rename_i t3 nt3 H5 s5 f5
    refine q H5 t3 (.gather p2 v1 v2) (s02.trans (s3.trans (s4.trans s5))) f5 ?_
    rcases c with c | c
    · rw [c]; split <;> rfl
    · rw [if_pos c]; rfl
  · simp only [not_or] at c
    obtain ⟨c1, c2⟩ := c
    have hpos : 0 < rs.length := List.length_pos_iff.mpr c2
    have hlr2 := s02 _ _ hlr
    have hvr2 := dvAll_same s02 hvr
    walk_at "z"
    refine z_ixL (SqL.of fp) g2 ?_
    walk_at "z"
    refine z_mulI (mulS (by omega) (by decide)) ?_
    walk_at "z"
    refine z_ixL (SqL.of fp) g3 ?_
    walk_at "z"
    refine z_lenL (SqL.of hlr2) ?_
    walk_at "z"
    refine z_I (by omega) ?_
    generalize p2 * 10 + p3 = zz
    have h0 : 0 ≤ zz % ((vr.length : Nat) : Int) := Int.emod_nonneg _ (by omega)
    have h1 : zz % ((vr.length : Nat) : Int) < vr.length := Int.emod_lt_of_pos _ (by omega)
    obtain ⟨j, hj⟩ : ∃ j : Nat, zz % ((vr.length : Nat) : Int) = (j : Nat) := ⟨_, (Int.toNat_of_nonneg h0).symm⟩
    rw [hj] at h1 ⊢
    obtain ⟨r, t, hr, hv, ht⟩ := row_at hvr2 (List.getElem?_eq_getElem (by omega : j < vr.length))
    have hrl := hl r (List.mem_of_getElem? hr)
    refine z_ixL (SqL.of hlr2) (atI_of (n := j) (v := .ref t) (by rw [List.getElem?_eq_getElem (by omega : j < vr.length), hv]) rfl) ?_
    walk_at "z"
    refine z_ite (fun c3 => ?_) (fun c3 => ?_)
    · walk_at "z"
      walk_at "zt"
      rename_i t1 nt1 H3 s3 f3
      walk_at "z"
      have s03 := s02.trans s3
      refine ⟨lr, vr, rs, t, r, la, ps, rfl, s03 _ _ hlr, dvAll_same s03 hvr, hrs, s3 _ _ ht, s3 _ _ fp, hlen, fun H4 a n1 n2 n3 n4 s4 f4 => ?_⟩
      refine z_catT (s4 _ _ f3) f4 (sz1000 (by simp)) fun p5 H5 s5 f5 => ?_
      exact q H5 p5 (.bundle n1 n2 n3 n4) (s03.trans (s4.trans s5)) f5 (by rw [if_neg c2]; exact c3.symm)
    walk_at "z"
    refine z_ite (fun c4 => ?_) (fun c4 => ?_)
    · walk_at "z"
      refine z_ixT (SqT.of ht) (atI_of (n := 0) rfl rfl) ?_
      walk_at "z"
      refine z_ixL (SqL.of fp) g4 ?_
      walk_at "z"
      refine z_I (by decide) ?_
      walk_at "z"
      walk_at "zt"
      rename_i t3 nt3 H5 s5 f5
      exact q H5 t3 (.pull r.n (1 + p4 % 3)) (s02.trans s5) f5 (by rw [if_neg c2]; exact c4.symm)
    walk_at "z"
    refine z_ite (fun c5 => ?_) (fun c5 => ?_)
    · walk_at "z"
      refine z_ixT (SqT.of ht) (atI_of (n := 0) rfl rfl) ?_
      walk_at "z"
      refine z_ixL (SqL.of fp) g4 ?_
      walk_at "z"
      walk_at "zt"
      rename_i t3 nt3 H5 s5 f5
      exact q H5 t3 (.turn r.n p4) (s02.trans s5) f5 (by rw [if_neg c2]; exact c5.symm)
    walk_at "z"
    refine z_ite (fun c6 => ?_) (fun c6 => ?_)
    · walk_at "z"
      refine z_ixT (SqT.of ht) (atI_of (n := 0) rfl rfl) ?_
      walk_at "z"
      refine z_ixL (SqL.of fp) g4 ?_
      walk_at "z"
      refine z_mulI (mulS (by omega) (by decide)) ?_
      walk_at "z"
      refine z_ixL (SqL.of fp) g5 ?_
      walk_at "z"
      refine z_ixL (SqL.of fp) g6 ?_
      walk_at "z"
      refine z_mulI (mulS (by omega) (by omega)) ?_
      walk_at "z"
      refine z_ixT (SqT.of ht) (atI_of (n := 3) rfl rfl) ?_
      refine z_I (by omega) ?_
      walk_at "z"
      walk_at "zt"
      rename_i t3 nt3 H5 s5 f5
      exact q H5 t3 (.cut r.n (1 + (p4 * 10 + p5) * (1 + p6) % r.l)) (s02.trans s5) f5 (by rw [if_neg c2]; exact c6.symm)
    walk_at "z"
    refine z_ite (fun c7 => ?_) (fun c7 => ?_)
    · walk_at "z"
      refine ⟨lr, rfl, ⟨_, SqL.of hlr2⟩, fun L1 hL1 => ?_⟩
      refine lc_list (K := K) (a := lr) (xs := vr) (fun i H' => Same H2 H' ∧ ∃ ns : List Int, H' L1 = some (.lst (ns.map V.int)) ∧ ns.length ≤ i) ⟨Same.new hL1, [], upd_same, Nat.le_refl _⟩ (fun i H' _ h => SqL.of (h.1 _ _ hlr2)) ?_ ?_
      · rintro i v H3 hi ⟨s3, ns, f3, l3⟩
        obtain ⟨r1, t1, e1, rfl, ht1⟩ := row_at (dvAll_same s3 hvr2) hi
        have hil := (List.getElem?_eq_some_iff.mp hi).1
        walk_at "zw"
        walk_at "z"
        refine ⟨rfl, ?_⟩
        walk_at "z"
        refine z_slT ht1 (ys := [.int r1.f, .int r1.t]) (by rfl) ?_
        intro q2 H4 s4 f4
        walk_at "z"
        refine z_slT (s4 _ _ (s3 _ _ ht)) (ys := [.int r.f, .int r.t]) (by rfl) ?_
        intro q3 H5 s5 f5
        refine z_eqDv (d := .tuple [.int r1.f, .int r1.t]) (e := .tuple [.int r.f, .int r.t]) (.tup (s5 _ _ f4) (.cons (.int _) (.cons (.int _) .nil))) (.tup f5 (.cons (.int _) (.cons (.int _) .nil))) rfl rfl ?_
        generalize PyData.eqv (.tuple [.int r1.f, .int r1.t]) (.tuple [.int r.f, .int r.t]) = bb
        have s35 := s3.trans (s4.trans s5)
        have f35 := s5 _ _ (s4 _ _ f3)
        have ht1' := s5 _ _ (s4 _ _ ht1)
        have ht' := s35 _ _ ht
        walk_at "z"
        cases bb with
        | false =>
          refine iteF ?_
          walk_at "z"
          exact ⟨s35, ns, f35, by omega⟩
        | true =>
          refine iteT ?_
          walk_at "z"
          refine z_ixT (SqT.of ht1') (atI_of (n := 0) rfl rfl) ?_
          walk_at "z"
          refine z_ixT (SqT.of ht') (atI_of (n := 0) rfl rfl) ?_
          walk_at "z"
          refine z_iteN (fun c8 => ?_) (fun c8 => ?_)
          · walk_at "z"
            refine z_ixT (SqT.of ht1') (atI_of (n := 0) rfl rfl) ?_
            refine ⟨_, f35, szlt (by rw [List.length_map]; omega), s35.set hL1, ns ++ [r1.n], by rw [upd_same, List.map_append]; rfl, by simp; omega⟩
          · exact ⟨s35, ns, f35, by omega⟩
      · rintro H3 ⟨s3, ns, f3, l3⟩
        have s03 := s02.trans s3
        walk_at "y"
        refine z_joinIf (R := fun σ' H' => ∃ L2 : Addr, ∃ ns2 : List Int, ∃ y4 y6, σ' = [some (.ref lr), some (.str w0), some (.int z), some (.ref la), y4, some (.ref t), y6, some (.ref L2)] ∧ Same H2 H' ∧ H' L2 = some (.lst (ns2.map V.int)) ∧ 0 < ns2.length) (fun D' k rt => ?_) ?_
        · refine z_if ?_
          refine z_ansS (decide (ns = [] ∨ p5 = 9)) (fun R hR => ?_) (fun H4 s4 => ?_)
          · walk_at "z"
            walk_at "zt"
            rename_i e1 ne1 H4 s4 f4
            walk_at "z"
            refine z_eqDv (.lst (s4 _ _ f3) (DvAll.ints ns)) (.lst f4 .nil) (shaped_ints ns) rfl ?_
            rw [eqv_ints_nil]
            walk_at "z"
            refine z_ite (fun c => ?_) (fun c => ?_)
            · walk_at "z"
              have e : decide (ns = [] ∨ p5 = 9) = true := by simp [c]
              rw [e] at hR
              exact hR _ s4
            · walk_at "z"
              refine z_ixL (SqL.of (s4 _ _ (s3 _ _ fp))) g5 ?_
              walk_at "z"
              have e : decide (ns = [] ∨ p5 = 9) = decide (p5 = 9) := by simp [c]
              rw [e] at hR
              exact hR _ s4
          · refine z_ite (fun c => ?_) (fun c => ?_)
            · have s04 := s03.trans s4
              walk_at "z"
              refine ⟨lr, rfl, ⟨_, SqL.of (s04 _ _ hlr)⟩, fun L2 hL2 => ?_⟩
              refine lc_list (K := K) (a := lr) (xs := vr) (fun i H' => Same H4 H' ∧ ∃ ns : List Int, H' L2 = some (.lst (ns.map V.int)) ∧ ns.length = i) ⟨Same.new hL2, [], upd_same, rfl⟩ (fun i H' _ h => SqL.of (h.1 _ _ (s04 _ _ hlr))) ?_ ?_
              · rintro i v H5 hi ⟨s5, ns2, f5, l5⟩
                obtain ⟨r2, t2, e2, rfl, ht2⟩ := row_at (dvAll_same (s04.trans s5) hvr) hi
                have hil := (List.getElem?_eq_some_iff.mp hi).1
                walk_at "zw"
                walk_at "z"
                refine ⟨rfl, ?_⟩
                walk_at "z"
                refine z_ixT (SqT.of ht2) (atI_of (n := 0) rfl rfl) ?_
                refine ⟨_, f5, szlt (by rw [List.length_map]; omega), s5.set hL2, ns2 ++ [r2.n], by rw [upd_same, List.map_append]; rfl, by simp [l5]⟩
              · rintro H5 ⟨s5, ns2, f5, l5⟩
                walk_at "z"
                exact k _ _ ⟨L2, ns2, _, _, rfl, (s3.trans s4).trans s5, f5, by omega⟩
            · simp only [not_or] at c
              walk_at "z"
              exact k _ _ ⟨L1, ns, _, _, rfl, s3.trans s4, s4 _ _ f3, List.length_pos_iff.mpr c.1⟩
        · rintro σ' H4 ⟨L2, ns2, y4, y6, rfl, s24, f4, l4⟩
          have s4 := s02.trans s24
          have ht4 : H4 t = some (.tup [.int r.n, .int r.f, .int r.t, .int r.l]) := by
            obtain ⟨r', t', e1, e2, e3⟩ := row_at (dvAll_same s4 hvr) (List.getElem?_eq_getElem (by omega : j < vr.length))
            rw [hv] at e2
            injection e2 with e2
            subst e2
            rw [hr] at e1
            rw [Option.some.inj e1]
            exact e3
          have f14 : H4 la = some (.lst (ps.map V.int)) := s24 _ _ fp
          walk_at "z"
          refine z_ixT (SqT.of ht4) (atI_of (n := 0) rfl rfl) ?_
          walk_at "z"
          refine z_ixL (SqL.of f14) g6 ?_
          walk_at "z"
          refine z_lenL (SqL.of f4) ?_
          rw [List.length_map]
          walk_at "z"
          refine z_I (by omega) ?_
          have h0' : 0 ≤ p6 % ((ns2.length : Nat) : Int) := Int.emod_nonneg _ (by omega)
          have h1' : p6 % ((ns2.length : Nat) : Int) < ns2.length := Int.emod_lt_of_pos _ (by omega)
          obtain ⟨j', hj'⟩ : ∃ j : Nat, p6 % ((ns2.length : Nat) : Int) = (j : Nat) := ⟨_, (Int.toNat_of_nonneg h0').symm⟩
          rw [hj'] at h1' ⊢
          refine z_ixL (SqL.of f4) (atI_of (n := j') (v := .int (ns2.getD j' 0)) (by rw [List.getElem?_map, List.getD_eq_getElem?_getD, List.getElem?_eq_getElem (by omega : j' < ns2.length)]; rfl) rfl) ?_
          walk_at "z"
          walk_at "zt"
          rename_i t3 nt3 H5 s5 f5
          exact q H5 t3 (.fuse r.n (ns2.getD j' 0)) (s4.trans s5) f5 (by rw [if_neg c2]; exact c7.symm)
    · walk_at "z"
      refine z_ixT (SqT.of ht) (atI_of (n := 0) rfl rfl) ?_
      walk_at "z"
      walk_at "zt"
      rename_i t3 nt3 H5 s5 f5
      simp only [menuN, List.mem_cons, List.not_mem_nil, or_false] at hw
      rcases hw with hw | hw | hw | hw | hw | hw | hw | hw
      · exact absurd hw c1
      · exact absurd hw c3
      · exact absurd hw c5
      · exact absurd hw c4
      · exact absurd hw c6
      · exact absurd hw c7
      · subst hw
        exact q H5 t3 (.sell r.n) (s02.trans s5) f5 (by rw [if_neg c2]; rfl)
      · subst hw
        exact q H5 t3 (.waste r.n) (s02.trans s5) f5 (by rw [if_neg c2]; rfl)
abbrev nShop_glass : List Str := ["self", "inside", "number", "held", "colour", "told"]
abbrev pShop_glass : List Str := ["self"]
theorem scShop_glass : FnScope nShop_glass pShop_glass (defScope sShop_glass) := ⟨rfl, rfl, rfl, by decide +kernel, rfl, by decide +kernel, by decide +kernel⟩
theorem ok_Shop_glass {P : Program} {w : World} {K : PySem.W.Frag} {mg : Str → Option Value} {base : Heap} (T : Tx w K mg) : Fk P w K mg base 5 (He.ma K (He.ga K "Shop") "glass") pShop_glass (spGlass K) := by
  have GShop_held_in := ok_Shop_held_in (P := P) (w := w) (base := base) T
  refine Fk.mk' T.fShop_glass scShop_glass (fun _ _ _ _ _ _ us hl => match us, hl with | [_], _ => rfl) (by
  intro vs H Q E h
  repeat (first | (obtain ⟨h1, _⟩ := h; subst h1; rfl) | (obtain ⟨_, h⟩ := h))) (fun cdv A outer s H vs Q E hr h => ?_)
  have hu := hu_of hr
  have hu64 := hr.units
  refine ⟨_, (pss_cons (ps_set (i := 1) scShop_glass.nd rfl (Or.inl rfl) (pe_op op_mulU (pe_lst (pa_cons pe_int pa_nil)) pe_int))
  (pss_cons (ps_lock (ps_for (passes_of rfl) rfl (pi_keys (k_fld K (pv 0) rfl)) (pg_name (i := 2) scShop_glass.nd rfl (Or.inl rfl)) (pss_cons (ps_set (i := 3) scShop_glass.nd rfl (Or.inl rfl) (q_meth (pv 0) T.cShop T.mShop_held_in GShop_held_in (hr.mono (by omega)) passX (pa_cons (pv 2) pa_nil)))
  (pss_one (ps_for (passes_of rfl) rfl (pi_range1 (by rfl) T.urange (pa_cons pe_int pa_nil)) (pg_name (i := 4) scShop_glass.nd rfl (Or.inl rfl)) (pss_one (ps_augS (pv 1) (pv 4) (k_get K) (k_ix K (pv 3) (pv 4) (fun _ _ => rfl)) ip_add set_list)))))))
  (pss_cons (ps_set (i := 5) scShop_glass.nd rfl (Or.inl rfl) (pe_lst pa_nil))
  (pss_cons (ps_for (passes_of rfl) rfl (pi_range1 (by rfl) T.urange (pa_cons pe_int pa_nil)) (pg_name (i := 4) scShop_glass.nd rfl (Or.inl rfl)) (pss_one (ps_expr (k_bm K PySem.F.plainAttrs_list PySem.F.slot_list_append PySem.F.type_list_append mt_append (pv 5) (pa_cons (pe_tup (pa_cons (k_ix K (k_ix K (k_fld K (pv 0) rfl) pe_int (fun _ _ => rfl)) (pv 4) (fun _ _ => rfl)) (pa_cons (k_ix K (pv 1) (pv 4) (fun _ _ => rfl)) (pa_cons (k_ix K (k_ix K (k_fld K (pv 0) rfl) pe_int (fun _ _ => rfl)) (pv 4) (fun _ _ => rfl)) (pa_cons (k_ix K (k_ix K (k_fld K (pv 0) rfl) pe_int (fun _ _ => rfl)) (pv 4) (fun _ _ => rfl)) pa_nil))))) pa_nil)))))
  (pss_one (ps_ret (pv 5))))))), ?_⟩
  try dsimp only [cxOf]
  obtain ⟨x, rfl, h, q⟩ := h
  have hst := h.ok _ (.inl rfl)
  have hrl := hst.rl
  have hkl := h.kl
  walk_at "z"
  walk_at "zt"
  rename_i l9 nl9 H9 s9 f9
  walk_at "z"
  refine z_mulL f9 (by decide) (by decide) (by decide) ?_
  intro Li nLi
  have sLi : Same H9 (upd H9 Li (.lst ((List.replicate 10 0).map V.int))) := Same.new nLi
  have fLi : (upd H9 Li (.lst ((List.replicate 10 0).map V.int))) Li = some (.lst ((List.replicate 10 (0 : Int)).map V.int)) := upd_same
  have eLi : (List.replicate ((10 : Int).toNat) ([V.int 0] : List V)).flatten = (List.replicate 10 (0 : Int)).map V.int := rfl
  rw [eLi]
  generalize upd H9 Li (.lst ((List.replicate 10 0).map V.int)) = H1 at sLi fLi ⊢
  have s1 := s9.trans sLi
  have nLi0 : H Li = none := s9.free nLi
  have h1 := h.same s1
  obtain ⟨kvs, hkv, hrs⟩ := h1.S.cur.d
  walk_at "z"
  refine z_lock hkv trivial fun od => ?_
  have qs1 : x.s ≠ x.B.q.d := fun z => h1.S.apt.s3 (by rw [z]; simp [SP.muts])
  have qL : x.B.q.d ≠ Li := fun z => by rw [z] at hkv; rw [fLi] at hkv; cases hkv
  have sL : x.s ≠ Li := fun z => by have e := h.S.ob; rw [z, nLi0] at e; cases e
  have fz0 : (upd H1 x.B.q.d (.frz od (.dK kvs))) x.B.q.d = some (.frz od (.dK kvs)) := upd_same
  have sz0 : ∀ b o, H1 b = some o → b ≠ x.B.q.d → (upd H1 x.B.q.d (.frz od (.dK kvs))) b = some o := fun b o e hb => by rw [upd_ne hb]; exact e
  generalize upd H1 x.B.q.d (.frz od (.dK kvs)) = G0 at fz0 sz0 ⊢
  walk_at "z"
  refine z_fldR (sz0 _ _ h1.S.ob qs1) T.cShop T.aShop_standing lkS_standing ?_
  refine ⟨x.B.q.d, od, rfl, .inl ⟨kvs, fz0, ?_⟩⟩
  have hDq : ¬ x.D x.B.q.d := h.ap _ (by simp [SB.muts, SP.muts])
  have hDL : ¬ x.D Li := h.F.nd nLi0
  refine for_it walk_keys (fun i σ H' => Keep (fun b => b = Li) G0 H' ∧ H' Li = some (.lst ((insideTo x.ps (x.now.rods.take i)).map V.int)) ∧ ∃ y2 y3 y4, σ = [some (.ref x.s), some (.ref Li), y2, y3, y4, none])
    ⟨Keep.refl _ _, sz0 _ _ fLi qL.symm, _, _, _, rfl⟩ (fun i σ H' _ h => h.1 _ _ fz0 qL) ?_ ?_
  · rintro i xk σ H0' H' hi ⟨kp, fI, y2, y3, y4, rfl⟩ ⟨rfl, k, v, hkv2, rfl⟩
    have hri : i < x.now.rods.length := by rw [← hrs.len]; exact hi
    obtain ⟨r, hr⟩ : ∃ r, x.now.rods[i]? = some r := ⟨_, List.getElem?_eq_getElem hri⟩
    obtain rfl : k = .inl r.n := by
      have e1 : (kvs.map (·.1))[i]? = some k := by rw [List.getElem?_map, hkv2]; rfl
      rw [hrs.keys, List.getElem?_map, List.getElem?_map, hr] at e1
      exact (Option.some.inj e1).symm
    have hrm := List.mem_of_getElem? hr
    have hfr : findR x.now.rods r.n = some r := hst.at hr
    have kall : ∀ b o, H1 b = some o → b ≠ x.B.q.d → b ≠ Li → H' b = some o := fun b o e n1 n2 => kp b o (sz0 b o e n1) n2
    have tk : ∀ b xs, H1 b = some (.tup xs) → H' b = some (.tup xs) := fun b xs e => kall b _ e (fun z => by rw [z, hkv] at e; cases e) (fun z => by rw [z, fLi] at e; cases e)
    have hF : FacesAt (He.ga K "Faces") H' x.p x.A x.D x.ps := h1.F.keep fun b o hb e => kall b o e (fun z => hDq (z ▸ hb)) (fun z => hDL (z ▸ hb))
    have hob : H' x.s = _ := kall _ _ h1.S.ob qs1 sL
    walk_at "z"
    refine z_methR hob noS_held_in ?_
    walk_at "z"
    refine ⟨x.s, x.p, x.A, x.D, x.ps, x.B, x.now, x.k, r.n, rfl, hF, ⟨hob, kvs, .inr ⟨od, kp _ _ fz0 qL⟩, hrs.stay tk⟩, hst, hkl, fun no => absurd no (by rw [hfr]; intro z; cases z), fun r2 hf2 H3 l3 s3 n3 f3 => ?_⟩
    rw [hfr] at hf2
    obtain rfl := Option.some.inj hf2
    have fI3 := s3 _ _ fI
    walk_at "z"
    refine ⟨_, rfl, by decide, by decide, ?_⟩
    have hil := inside_len x.ps (x.now.rods.take i)
    refine for_range (lo := 0) (n := 10) (fun j σ H' => Keep (fun b => b = Li) H3 H' ∧ H' Li = some (.lst ((addTo (insideTo x.ps (x.now.rods.take i)) (heldL x.ps r) j).map V.int)) ∧ ∃ y4, σ = [some (.ref x.s), some (.ref Li), some (.int r.n), some (.ref l3), y4, none])
      ⟨Keep.refl _ _, by rw [addTo_zero]; exact fI3, _, rfl⟩ ?_ ?_
    · rintro j σ H4 hj ⟨kp4, fI4, y4, rfl⟩
      have l3L : l3 ≠ Li := fun z => by rw [z] at f3; rw [z, fI] at n3; cases n3
      have e0 : (0 : Int) + (j : Nat) = (j : Nat) := Int.zero_add _
      have hih : j < (heldL x.ps r).length := by rw [held_len]; omega
      have hij : j < (insideTo x.ps (x.now.rods.take i)).length := by rw [hil]; omega
      rw [e0]
      walk_at "z"
      refine z_getL (n := j) (SqL.of fI4) rfl (v := .int ((insideTo x.ps (x.now.rods.take i)).getD j 0)) (by rw [List.getElem?_map, addTo_at hij]; rfl) ?_
      walk_at "z"
      refine z_ixL (SqL.of (kp4 _ _ f3 l3L)) (atI_of (n := j) (v := .int ((heldL x.ps r).getD j 0)) (by rw [List.getElem?_map, List.getD_eq_getElem?_getD, List.getElem?_eq_getElem hih]; rfl) rfl) ?_
      walk_at "z"
      refine z_setL (n := j) fI4 rfl (by rw [List.length_map, addTo_len]; exact hij) ?_
      have e3 : ((addTo (insideTo x.ps (x.now.rods.take i)) (heldL x.ps r) j).map V.int).set j (.int ((insideTo x.ps (x.now.rods.take i)).getD j 0 + (heldL x.ps r).getD j 0)) = (addTo (insideTo x.ps (x.now.rods.take i)) (heldL x.ps r) (j + 1)).map V.int := by
        rw [← addTo_step hij, List.map_set]
      rw [e3]
      exact ⟨kp4.set rfl, upd_same, _, rfl⟩
    · rintro σ H4 ⟨kp4, fI4, y4, rfl⟩
      rw [addTo_end hil (held_len _ _), ← insideTo_snoc] at fI4
      have et : x.now.rods.take i ++ [r] = x.now.rods.take (i + 1) := by rw [List.take_add_one, hr]; rfl
      rw [et] at fI4
      exact ⟨kp.trans (s3.keep.trans kp4), fI4, _, _, _, rfl⟩
  · rintro σ H' ⟨kp, fI, y2, y3, y4, rfl⟩
    refine ⟨kp _ _ fz0 qL, ?_⟩
    have sB : Same H (upd H' x.B.q.d (.dK kvs)) := fun b o e => by
      have bL : b ≠ Li := fun z => by rw [z, nLi0] at e; cases e
      by_cases hb : b = x.B.q.d
      · subst hb
        rw [upd_same, ← hkv, s1 _ _ e]
      · rw [upd_ne hb]
        exact kp b o (sz0 b o (s1 _ _ e) hb) bL
    have fI2 : (upd H' x.B.q.d (.dK kvs)) Li = some (.lst ((insideTo x.ps (x.now.rods.take kvs.length)).map V.int)) := by rw [upd_ne qL.symm]; exact fI
    rw [hrs.len, List.take_of_length_le (Nat.le_refl _)] at fI2
    have hil := inside_len x.ps x.now.rods
    generalize upd H' x.B.q.d (.dK kvs) = H5 at sB fI2 ⊢
    have h5 := h.same sB
    have A5 := h5.S.cur
    walk_at "z"
    refine ⟨sz1000 (by simp), fun Lt nLt => ?_⟩
    have nLt0 : H Lt = none := sB.free nLt
    have LtL : Lt ≠ Li := fun z => by rw [z, fI2] at nLt; cases nLt
    walk_at "z"
    refine ⟨_, rfl, by decide, by decide, ?_⟩
    refine for_range (lo := 0) (n := 10) (fun j σ H' => Same H5 H' ∧ (∃ vs', H' Lt = some (.lst vs') ∧ vs'.length = j ∧ DvAll H' vs' ((List.range j).map fun j => tupI (glassRow x.ps x.now j)) ∧ ∀ v ∈ vs', ∃ t, v = .ref t ∧ H t = none) ∧ ∃ y2 y3 y4, σ = [some (.ref x.s), some (.ref Li), y2, y3, y4, some (.ref Lt)])
      ⟨Same.new nLt, ⟨[], upd_same, rfl, .nil, fun v hv => by simp at hv⟩, _, _, _, rfl⟩ ?_ ?_
    · rintro j σ H6 hj ⟨s6, ⟨vs', f6, hl6, d6, fr6⟩, y2, y3, y4, rfl⟩
      have e0 : (0 : Int) + (j : Nat) = (j : Nat) := Int.zero_add _
      have g0 : ∀ {l : List Int}, SumOk x.k l → atI (l.map V.int) (j : Nat) = some (.int (l.getD j 0)) := fun {l} hl => by
        have : j < l.length := by rw [hl.ten]; omega
        exact atI_of (n := j) (by rw [List.getElem?_map, List.getD_eq_getElem?_getD, List.getElem?_eq_getElem this]; rfl) rfl
      have gI : atI ((insideTo x.ps x.now.rods).map V.int) (j : Nat) = some (.int ((insideTo x.ps x.now.rods).getD j 0)) := by
        have : j < (insideTo x.ps x.now.rods).length := by rw [hil]; omega
        exact atI_of (n := j) (by rw [List.getElem?_map, List.getD_eq_getElem?_getD, List.getElem?_eq_getElem this]; rfl) rfl
      rw [e0]
      walk_at "z"
      refine z_tyL (SqL.of f6) ?_
      walk_at "z"
      refine z_fldR (s6 _ _ h5.S.ob) T.cShop T.aShop_amounts lkS_amounts ?_
      walk_at "z"
      refine z_ixT (SqT.of (s6 _ _ A5.am)) (atI_of (n := 0) rfl rfl) ?_
      walk_at "z"
      refine z_ixL (SqL.of (s6 _ _ A5.l0)) (g0 hst.a0) ?_
      walk_at "z"
      refine z_ixL (SqL.of (s6 _ _ fI2)) gI ?_
      walk_at "z"
      refine z_fldR (s6 _ _ h5.S.ob) T.cShop T.aShop_amounts lkS_amounts ?_
      walk_at "z"
      refine z_ixT (SqT.of (s6 _ _ A5.am)) (atI_of (n := 1) rfl rfl) ?_
      walk_at "z"
      refine z_ixL (SqL.of (s6 _ _ A5.l1)) (g0 hst.a1) ?_
      walk_at "z"
      refine z_fldR (s6 _ _ h5.S.ob) T.cShop T.aShop_amounts lkS_amounts ?_
      walk_at "z"
      refine z_ixT (SqT.of (s6 _ _ A5.am)) (atI_of (n := 2) rfl rfl) ?_
      walk_at "z"
      refine z_ixL (SqL.of (s6 _ _ A5.l2)) (g0 hst.a2) ?_
      walk_at "z"
      walk_at "zt"
      rename_i t nt H7 s7 f7
      have f67 := s7 _ _ f6
      walk_at "z"
      refine z_app f67 (szlt (by omega)) ?_
      have tk : ∀ a xs, H7 a = some (.tup xs) → (upd H7 Lt (.lst (vs' ++ [.ref t]))) a = some (.tup xs) := tup_upd f67
      have fl : ∀ n : Nat, flatAll ((List.range n).map fun j => tupI (glassRow x.ps x.now j)) = true := fun n => by
        have : ∀ l : List Nat, flatAll (l.map fun j => tupI (glassRow x.ps x.now j)) = true := by
          intro l
          induction l with
          | nil => rfl
          | cons a l ih => simp only [List.map_cons, flatAll, ih, Bool.and_true]; simp [tupI, flat, flat_ints]
        exact this _
      refine ⟨(s6.trans s7).set nLt, ⟨vs' ++ [.ref t], upd_same, by simp [hl6], ?_, fun v hv => ?_⟩, _, _, _, rfl⟩
      · rw [List.range_succ, List.map_append]
        exact DvAll.snoc (dv_stay tk (by simp [tupI, flat, flat_ints]) (dvTupI (l := glassRow x.ps x.now j) f7)) (dvAll_stay tk (fl j) (dvAll_same s7 d6))
      · rcases List.mem_append.mp hv with z | z
        · exact fr6 v z
        · simp only [List.mem_singleton] at z
          exact ⟨t, z, (sB.trans s6).free nt⟩
    · rintro σ H6 ⟨s6, ⟨vs', f6, hl6, d6, fr6⟩, y2, y3, y4, rfl⟩
      walk_at "z"
      exact q H6 Lt vs' (sB.trans s6) nLt0 f6 d6 fr6
abbrev nShop_bundled : List Str := ["self"]
abbrev pShop_bundled : List Str := ["self"]
theorem scShop_bundled : FnScope nShop_bundled pShop_bundled (defScope sShop_bundled) := ⟨rfl, rfl, rfl, by decide +kernel, rfl, by decide +kernel, by decide +kernel⟩
theorem ok_Shop_bundled {P : Program} {w : World} {K : PySem.W.Frag} {mg : Str → Option Value} {base : Heap} (T : Tx w K mg) : Fk P w K mg base 1 (He.ma K (He.ga K "Shop") "bundled") pShop_bundled (spBundled K) := by
  refine Fk.mk' T.fShop_bundled scShop_bundled (fun _ _ _ _ _ _ us hl => match us, hl with | [_], _ => rfl) (by
  intro vs H Q E h
  repeat (first | (obtain ⟨h1, _⟩ := h; subst h1; rfl) | (obtain ⟨_, h⟩ := h))) (fun cdv A outer s H vs Q E hr h => ?_)
  have hu := hu_of hr
  have hu64 := hr.units
  refine ⟨_, (pss_one (ps_ret (pe_callTy (k_list K) (by rfl) T.ulist (by decide +kernel) (pa_cons (k_fld K (pv 0) rfl) pa_nil)))), ?_⟩
  try dsimp only [cxOf]
  obtain ⟨x, rfl, h, q⟩ := h
  walk_at "z"
  refine z_fldR h.S.ob T.cShop T.aShop_bundles lkS_bundles ?_
  walk_at "z"
  refine z_listL (SqL.of h.S.cur.b) ?_
  walk_at "zn"
  rename_i l n H1 s1 f1
  exact q H1 l s1 n f1
abbrev nShop_look : List Str := ["self", "number", "rows"]
abbrev pShop_look : List Str := ["self"]
theorem scShop_look : FnScope nShop_look pShop_look (defScope sShop_look) := ⟨rfl, rfl, rfl, by decide +kernel, rfl, by decide +kernel, by decide +kernel⟩
theorem ok_Shop_look {P : Program} {w : World} {K : PySem.W.Frag} {mg : Str → Option Value} {base : Heap} (T : Tx w K mg) : Fk P w K mg base 6 (He.ma K (He.ga K "Shop") "look") pShop_look (spLook K) := by
  have GShop_glass := ok_Shop_glass (P := P) (w := w) (base := base) T
  have GShop_bundled := ok_Shop_bundled (P := P) (w := w) (base := base) T
  refine Fk.mk' T.fShop_look scShop_look (fun _ _ _ _ _ _ us hl => match us, hl with | [_], _ => rfl) (by
  intro vs H Q E h
  repeat (first | (obtain ⟨h1, _⟩ := h; subst h1; rfl) | (obtain ⟨_, h⟩ := h))) (fun cdv A outer s H vs Q E hr h => ?_)
  have hu := hu_of hr
  have hu64 := hr.units
  refine ⟨_, (pss_cons (ps_setLc (i := 2) (own := [("number", 1)]) (g := gName 1) rfl scShop_look.nd rfl rfl (sw_true rfl rfl rfl (by decide +kernel)) (k_pil K (pe_callB (call_sortedDI rfl) (by rfl) T.usorted (by decide +kernel) (pa_cons (k_fld K (pv 0) rfl) pa_nil))) (blkOk_by (own := [("number", 1)]) (N := nShop_look) (sc := defScope sShop_look) (by decide +kernel)) (fun _ _ _ _ _ => pg_name (i := 1) scShop_look.nd rfl (Or.inl rfl)) (fun _ _ _ _ _ => pts_nil) (fun _ _ _ _ _ => (pe_op (k_add K) (pe_tup (pa_cons (pv 1) pa_nil)) (pe_dget hu (k_fld K (pv 0) rfl) (pv 1) (fun _ _ => rfl)))))
  (pss_one (ps_ret (pe_tup (pa_cons (pv 2) (pa_cons (k_fld K (pv 0) rfl) (pa_cons (q_meth0 (pv 0) T.cShop T.mShop_glass GShop_glass (hr.mono (by omega)) passX) (pa_cons (q_meth0 (pv 0) T.cShop T.mShop_bundled GShop_bundled (hr.mono (by omega)) passX) pa_nil)))))))), ?_⟩
  try dsimp only [cxOf]
  obtain ⟨x, rfl, h, h64, q⟩ := h
  have hst := h.ok _ (.inl rfl)
  obtain ⟨kvs, hkv, hrs⟩ := h.S.cur.d
  walk_at "z"
  refine z_fldR h.S.ob T.cShop T.aShop_standing lkS_standing ?_
  walk_at "z"
  refine ⟨_, kvs, x.now.rods.map (·.n), rfl, .inl hkv, hrs.keys, by rw [List.length_map]; exact h64, fun ys p hp hsorted hpn => ?_⟩
  obtain rfl := sorted_same hp hsorted hst.up
  have s1 : Same H (upd H p (.lst ((x.now.rods.map (·.n)).map V.int))) := Same.new hpn
  have f1 : (upd H p (.lst ((x.now.rods.map (·.n)).map V.int))) p = some (.lst ((x.now.rods.map (·.n)).map V.int)) := upd_same
  generalize upd H p _ = H1 at s1 f1 ⊢
  refine ⟨p, rfl, ⟨_, SqL.of f1⟩, fun L hL => ?_⟩
  have L0 : H L = none := s1.free hL
  refine lc_list (K := K) (a := p) (xs := (x.now.rods.map (·.n)).map V.int) (fun i H' => Same H1 H' ∧ ∃ vr, H' L = some (.lst vr) ∧ DvAll H' vr (rowsD (x.now.rods.take i))) ⟨Same.new hL, [], upd_same, .nil⟩ (fun i H' _ h => SqL.of (h.1 _ _ f1)) ?_ ?_
  · rintro i v H' hi ⟨s2, vr, f2, d2⟩
    obtain ⟨r, hr, rfl⟩ : ∃ r, x.now.rods[i]? = some r ∧ v = .int r.n := by
      rw [List.getElem?_map, List.getElem?_map] at hi
      cases e : x.now.rods[i]? with
      | none => rw [e] at hi; cases hi
      | some m => rw [e] at hi; exact ⟨m, rfl, (Option.some.inj hi).symm⟩
    have s12 := s1.trans s2
    have hi64 : i < 64 := by have := (List.getElem?_eq_some_iff.mp hr).1; omega
    rcases hrs.find r.n with ⟨r', a, g1, g2, g3, g4⟩ | ⟨g1, g2⟩
    · rw [hst.at hr] at g1
      obtain rfl := Option.some.inj g1
      walk_at "zw"
      walk_at "z"
      refine ⟨rfl, ?_⟩
      walk_at "z"
      walk_at "zt"
      rename_i t1 n1 H3 s3 f3
      have s03 := s12.trans s3
      walk_at "z"
      refine z_fldR (s03 _ _ h.S.ob) T.cShop T.aShop_standing lkS_standing ?_
      walk_at "z"
      refine z_dgetR (v := .ref a) (.inl ⟨kvs, .inl r.n, .inl (s03 _ _ hkv), rfl, g2.symm⟩) ?_
      refine z_catT f3 (s03 _ _ g3) (sz1000 (by simp)) fun t4 H4 s4 f4 => ?_
      have f24 := s4 _ _ (s3 _ _ f2)
      have s04 := s03.trans s4
      have tk : ∀ a xs, H4 a = some (.tup xs) → (upd H4 L (.lst (vr ++ [.ref t4]))) a = some (.tup xs) := tup_upd f24
      refine ⟨vr, f24, szlt (by have := d2.len; simp [rowsD] at this; omega), ((s2.trans s3).trans s4).set hL, vr ++ [.ref t4], upd_same, ?_⟩
      · have e : rowsD (x.now.rods.take (i + 1)) = rowsD (x.now.rods.take i) ++ [tupI (rodRow r)] := by
          rw [List.take_add_one, hr]; simp [rowsD]
        rw [e]
        exact DvAll.snoc (dv_stay tk (by simp [tupI, flat, flat_ints]) (dvTupI (l := rodRow r) f4)) (dvAll_stay tk (rows_flat _) (dvAll_same (s3.trans s4) d2))
    · rw [hst.at hr] at g1; cases g1
  · rintro H2 ⟨s2, vr, f2, d2⟩
    rw [List.length_map, List.length_map, List.take_of_length_le (Nat.le_refl _)] at d2
    have s02 := s1.trans s2
    have h2 := h.same s02
    walk_at "z"
    refine z_fldR h2.S.ob T.cShop T.aShop_coming lkS_coming ?_
    walk_at "z"
    refine z_methR h2.S.ob noS_glass ?_
    walk_at "z"
    refine ⟨x, rfl, h2, fun H3 lg vg s3 n3 f3 d3 fr3 => ?_⟩
    have h3 := Wd.same h2 s3
    walk_at "z"
    refine z_methR h3.S.ob noS_bundled ?_
    walk_at "z"
    refine ⟨x, rfl, h3, fun H4 lb s4 n4 f4 => ?_⟩
    walk_at "z"
    walk_at "zt"
    rename_i t nt H5 s5 f5
    have s35 := s4.trans s5
    have s05 := s02.trans (s3.trans s35)
    refine q H5 t L lg lb vr vg s05 ⟨f5, (s3.trans s35) _ _ f2, dvAll_same (s3.trans s35) d2, s35 _ _ f3, dvAll_same s35 d3, s5 _ _ f4⟩ ((s02.trans (s3.trans s4)).free nt) L0 (s02.free n3) ((s02.trans s3).free n4)
def spNext (K : PySem.W.Frag) : Sp := fun vs H Q _ => ∃ x : Ws, ∃ at_ cell head : Int, vs = [.ref x.s, .int at_, .int cell, .int head] ∧ x.at K H ∧ x.k < 64 ∧ 0 ≤ at_ ∧ at_ < 1000 ∧ ∀ H' t, ∀ dd : Deed, Same H H' → H' t = some (.tup dd.vals) → Q (.ref t) H'
abbrev n_law_next : List Str := ["_law_shop", "_law_at", "_law_cell_here", "_law_head", "_law_parts", "_law_word"]
abbrev p_law_next : List Str := ["_law_shop", "_law_at", "_law_cell_here", "_law_head"]
theorem sc_law_next : FnScope n_law_next p_law_next (defScope s_law_next) := ⟨rfl, rfl, rfl, by decide +kernel, rfl, by decide +kernel, by decide +kernel⟩
theorem ok__law_next {P : Program} {w : World} {K : PySem.W.Frag} {mg : Str → Option Value} {base : Heap} (T : Tx w K mg) : Fk P w K mg base 7 (He.ga K "_law_next") p_law_next (spNext K) := by
  have G_law_row := ok__law_row (P := P) (w := w) (base := base) T
  have G_law_menu := ok__law_menu (P := P) (w := w) (base := base) T
  have G_law_deed := ok__law_deed (P := P) (w := w) (base := base) T
  have GShop_look := ok_Shop_look (P := P) (w := w) (base := base) T
  refine Fk.mk' T.f_law_next sc_law_next (fun _ _ _ _ _ _ us hl => match us, hl with | [_, _, _, _], _ => rfl) (by
  intro vs H Q E h
  repeat (first | (obtain ⟨h1, _⟩ := h; subst h1; rfl) | (obtain ⟨_, h⟩ := h))) (fun cdv A outer s H vs Q E hr h => ?_)
  have hu := hu_of hr
  have hu64 := hr.units
  refine ⟨_, (pss_cons (ps_set (i := 4) sc_law_next.nd rfl (Or.inl rfl) (q_call G_law_row (hr.mono (by omega)) T.g_law_row passX (pa_cons (pv 2) (pa_cons pe_int (pa_cons pe_int pa_nil)))))
  (pss_cons (ps_set (i := 5) sc_law_next.nd rfl (Or.inl rfl) (q_call G_law_menu (hr.mono (by omega)) T.g_law_menu passX (pa_cons (pe_op (k_add K) (pe_op op_mulU (k_ix K (pv 4) pe_int (fun _ _ => rfl)) pe_int) (k_ix K (pv 4) pe_int (fun _ _ => rfl))) pa_nil)))
  (pss_cons (ps_if (PW.pt (pw_and (pt_cmpR op_lt (pv 1) pe_int (nomark _)) (pw_and1 (pt_cmpR op_lt (pe_op op_mod (pv 3) pe_int) pe_int (nomark _))))) (pss_one (ps_ret (pe_tup (pa_cons pe_str (pa_cons (pe_op op_mod (pe_op (k_add K) (pe_op op_fdivW (pv 3) pe_int) (pe_op op_mulU (pv 1) (pe_op op_mod (pe_op op_fdivW (pv 3) pe_int) pe_int))) pe_int) (pa_cons (pe_op op_mod (pe_op op_fdivW (pv 3) pe_int) pe_int) (pa_cons (pe_op (k_add K) pe_int (pe_op op_mod (pe_op op_fdivW (pv 3) pe_int) pe_int)) pa_nil))))))) pss_nil)
  (pss_one (ps_ret (q_call G_law_deed (hr.mono (by omega)) T.g_law_deed passX (pa_cons (k_ix K (q_meth0 (pv 0) T.cShop T.mShop_look GShop_look (hr.mono (by omega)) passX) pe_int (fun _ _ => rfl)) (pa_cons (pv 5) (pa_cons (pv 2) pa_nil))))))))), ?_⟩
  try dsimp only [cxOf]
  obtain ⟨x, at_, cell, head, rfl, hx, hk, ha0, ha1, q⟩ := h
  have ok := hx.ok _ (.inl rfl)
  have hrl := ok.rl
  walk_at "z"
  refine ⟨cell, 12, 10, rfl, by decide, by decide, by decide, fun H1 la s1 n1 f1 => ?_⟩
  have gp : ∀ i : Nat, i < 12 → atI ((rowI cell 12 10).map V.int) (i : Nat) = some (.int ((rowI cell 12 10).getD i 0)) := fun i hi => atI_row hi rfl
  have rg : ∀ i : Nat, i < 12 → 0 ≤ (rowI cell 12 10).getD i 0 ∧ (rowI cell 12 10).getD i 0 < 10 := fun i hi => row_getrg (by decide) hi
  generalize rowI cell 12 10 = ps at f1 gp rg
  have g0 := gp 0 (by decide)
  have g1 := gp 1 (by decide)
  have r0 := rg 0 (by decide)
  have r1 := rg 1 (by decide)
  generalize ps.getD 0 0 = p0 at g0 r0
  generalize ps.getD 1 0 = p1 at g1 r1
  walk_at "z"
  refine z_ixL (SqL.of f1) g0 ?_
  walk_at "z"
  refine z_mulI (mulS (by omega) (by decide)) ?_
  walk_at "z"
  refine z_ixL (SqL.of f1) g1 ?_
  walk_at "z"
  refine ⟨_, rfl, fun H2 w2 s2 hw2 => ?_⟩
  have hx2 := hx.same (s1.trans s2)
  have fin : ∀ D : Ends, D.rt = Q → ∀ (y4 : Option V), tRet (tCall (spDrawn K) [] E (tCons (tOp (rIx K) (tMeth (He.ga K "Shop") "look" (spLook K) [] E (tVar 0) tNil) (tC (.int 0))) (tCons (tVar 5) (tCons (tVar 2) tNil)))) D [some (.ref x.s), some (.int at_), some (.int cell), some (.int head), y4, some (.str w2)] H2 := by
    intro D hD y4
    walk_at "z"
    refine ⟨_, _, _, rfl, hx2.S.ob, noS_look, ?_⟩
    walk_at "z"
    refine ⟨x, rfl, hx2, by omega, fun H3 t lr lg lb vr vg s3 lk n1 n2 n3 n4 => ?_⟩
    walk_at "z"
    refine z_ixT (SqT.of lk.t) (atI_of (n := 0) rfl rfl) ?_
    walk_at "z"
    refine ⟨lr, vr, x.now.rods, w2, cell, rfl, lk.r, lk.dr, by omega, fun r hr => (ok.rod r hr).1.long, hw2, fun H4 a dd s4 f4 _ => ?_⟩
    rw [hD]
    exact q H4 a dd (s1.trans (s2.trans (s3.trans s4))) f4
  walk_at "z"
  refine z_ite (fun c => ?_) (fun c => ?_)
  · walk_at "z"
    refine z_I (by decide) ?_
    walk_at "z"
    refine z_ite (fun c2 => ?_) (fun c2 => ?_)
    · walk_at "z"
      refine z_I (divW (by decide) (by decide)) ?_
      walk_at "z"
      refine z_I (divW (by decide) (by decide)) ?_
      walk_at "z"
      refine z_I (by decide) ?_
      have b1 := Int.emod_nonneg (head / 80) (b := 3) (by decide)
      have b2 := Int.emod_lt_of_pos (head / 80) (b := 3) (by decide)
      walk_at "z"
      refine z_mulI (mulS (by omega) (by omega)) ?_
      walk_at "z"
      refine z_I (by decide) ?_
      walk_at "z"
      refine z_I (divW (by decide) (by decide)) ?_
      walk_at "z"
      refine z_I (by decide) ?_
      walk_at "z"
      refine z_I (divW (by decide) (by decide)) ?_
      walk_at "z"
      refine z_I (by decide) ?_
      walk_at "z"
      walk_at "zt"
      rename_i t3 nt3 H3 s3 f3
      exact q H3 t3 (.gather ((head / 8 + at_ * (head / 80 % 3)) % 10) (head / 240 % 4) (1 + head / 960 % 4)) (s1.trans (s2.trans s3)) f3
    · repeat (first | exact fin _ rfl _ | walk_at "y1")
  · repeat (first | exact fin _ rfl _ | walk_at "y1")
def spPlay (K : PySem.W.Frag) : Sp := fun vs H Q _ => ∃ x : Ws, ∃ la, ∃ cs : List Int, ∃ head : Int, vs = [.ref x.s, .ref la, .int head] ∧ x.at K H ∧ H la = some (.lst (cs.map V.int)) ∧ ¬ x.foot la ∧ x.k + cs.length < 64 ∧ Told37 x ∧ ∀ H' y, y.at K H' → Gone H x H' y → y.k ≤ x.k + cs.length → Told37 y → Q .non H'
abbrev n_law_play : List Str := ["_law_shop", "_law_cells", "_law_head", "_law_at", "_law_cell_here"]
abbrev p_law_play : List Str := ["_law_shop", "_law_cells", "_law_head"]
theorem sc_law_play : FnScope n_law_play p_law_play (defScope s_law_play) := ⟨rfl, rfl, rfl, by decide +kernel, rfl, by decide +kernel, by decide +kernel⟩
theorem ok__law_play {P : Program} {w : World} {K : PySem.W.Frag} {mg : Str → Option Value} {base : Heap} (T : Tx w K mg) : Fk P w K mg base 20 (He.ga K "_law_play") p_law_play (spPlay K) := by
  have G_law_done := ok__law_done (P := P) (w := w) (base := base) T
  have G_law_next := ok__law_next (P := P) (w := w) (base := base) T
  refine Fk.mk' T.f_law_play sc_law_play (fun _ _ _ _ _ _ us hl => match us, hl with | [_, _, _], _ => rfl) (by
  intro vs H Q E h
  repeat (first | (obtain ⟨h1, _⟩ := h; subst h1; rfl) | (obtain ⟨_, h⟩ := h))) (fun cdv A outer s H vs Q E hr h => ?_)
  have hu := hu_of hr
  have hu64 := hr.units
  refine ⟨_, (pss_one (ps_for (passes_of rfl) rfl (k_enum K (by rfl) T.uenumerate (pa_cons (pv 1) pa_nil)) (k_pgt (n := 2) K rfl (pgs_cons (pg_name (i := 3) sc_law_play.nd rfl (Or.inl rfl)) (pgs_cons (pg_name (i := 4) sc_law_play.nd rfl (Or.inl rfl)) pgs_nil))) (pss_one (ps_expr (q_call G_law_done (hr.mono (by omega)) T.g_law_done passX (pa_cons (pv 0) (pa_cons (q_call G_law_next (hr.mono (by omega)) T.g_law_next passX (pa_cons (pv 0) (pa_cons (pv 3) (pa_cons (pv 4) (pa_cons (pv 2) pa_nil))))) pa_nil))))))), ?_⟩
  try dsimp only [cxOf]
  obtain ⟨x, la, cs, head, rfl, hx, hla, nla, hk, t0, q⟩ := h
  walk_at "z"
  refine ⟨la, _, rfl, SqL.of hla, ?_⟩
  refine for_it (walk_enum (xs := cs.map V.int)) (fun i σ H' => ∃ y : Ws, y.at K H' ∧ Gone H x H' y ∧ y.k ≤ x.k + i ∧ Told37 y ∧ ∃ y3 y4, σ = [some (.ref x.s), some (.ref la), some (.int head), y3, y4]) ⟨x, hx, Gone.refl (Same.refl _), by omega, t0, _, _, rfl⟩ ?_ ?_ ?_
  · rintro i σ H' _ ⟨y, hy, g, _⟩
    exact SqL.of (g.keep _ _ hla nla)
  · rintro i v σ H' H2 hi ⟨y, hy, g, hyk, run, y3, y4, rfl⟩ ⟨T2, u, z, rfl, nT, rfl, e1, e2⟩
    obtain rfl := (Option.some.inj e1)
    rw [List.length_map] at hi
    replace e2 : (cs.map V.int)[i]? = some z := e2
    rw [List.getElem?_map, List.getElem?_eq_getElem hi] at e2
    obtain rfl := (Option.some.inj e2)
    have sT : Same H' (upd H' T2 (.tup [.int (i : Nat), .int cs[i]])) := Same.new nT
    generalize cs[i] = c at sT ⊢
    have hy2 := hy.same sT
    have ge := g.trans (Gone.refl sT)
    have fT : upd H' T2 (.tup [.int (i : Nat), .int c]) T2 = some (.tup [.int (i : Nat), .int c]) := upd_same
    generalize upd H' T2 (.tup [.int (i : Nat), .int c]) = H2 at sT hy2 ge fT ⊢
    refine z_gTup (SqT.of fT) rfl ?_
    walk_at "z"
    refine ⟨y, i, c, head, by rw [g.s]; rfl, hy2, by omega, by omega, by omega, fun H3 t dd s3 f3 => ?_⟩
    walk_at "z"
    refine ⟨y, t, dd, by rw [g.s]; rfl, hy2.same s3, by omega, f3, fun H4 r y2 hy4 g4 hk4 dn => ?_⟩
    walk_at "z"
    refine ⟨y2, hy4, (ge.trans (Gone.refl s3)).trans g4, by omega, Told37.done run hy g4.ext dn, _, _, rfl⟩
  · rintro σ H' ⟨y, hy, g, hyk, run, _⟩
    walk_at "z"
    exact q H' y hy g (by rw [List.length_map] at hyk; omega) run
def spWritten (B : Addr) : Sp := fun vs H Q E => ∃ a xs ds, vs = [.ref a] ∧ H a = some (.tup xs) ∧ DvAll H xs ds ∧ (∀ d ∈ ds, isIS d = true) ∧ (isDeed ds = false → ∀ H', Same H H' → E (.ref B) none H') ∧ (∀ dd : Deed, ds = dd.items → isDeed dd.items = true → ∀ H', Same H H' → Q (.str dd.line) H')
abbrev nwritten : List Str := ["deed", "part"]
abbrev pwritten : List Str := ["deed"]
theorem scwritten : FnScope nwritten pwritten (defScope swritten) := ⟨rfl, rfl, rfl, by decide +kernel, rfl, by decide +kernel, by decide +kernel⟩
theorem ok_written {P : Program} {w : World} {K : PySem.W.Frag} {mg : Str → Option Value} {base : Heap} (T : Tx w K mg) : Fk P w K mg base 2 (He.ga K "written") pwritten (spWritten (He.ga K "BadDeed")) := by
  have Gis_deed := ok_is_deed (P := P) (w := w) (base := base) T
  refine Fk.mk' T.fwritten scwritten (fun _ _ _ _ _ _ us hl => match us, hl with | [_], _ => rfl) (by
  intro vs H Q E h
  repeat (first | (obtain ⟨h1, _⟩ := h; subst h1; rfl) | (obtain ⟨_, h⟩ := h))) (fun cdv A outer s H vs Q E hr h => ?_)
  have hu := hu_of hr
  have hu64 := hr.units
  refine ⟨_, (pss_cons (ps_if (pt_not (pt_val (q_call Gis_deed (hr.mono (by omega)) T.gis_deed passX (pa_cons (pv 0) pa_nil)))) (pss_one (ps_raise rfl takesX (pmk_own PySem.F.excBase_ValueError T.eBadDeed.1 T.gBadDeed T.eBadDeed.2.1 (raises_own T.eBadDeed.2.2.1 T.eBadDeed.2.2.2) (by rfl)))) pss_nil)
  (pss_one (ps_ret (pe_join pe_str (pe_lc (own := [("part", 1)]) (g := gName 1) rfl scwritten.nd (k_pit K (pv 0)) (blkOk_by (own := [("part", 1)]) (N := nwritten) (sc := defScope swritten) (by decide +kernel)) (fun _ _ _ _ _ => pg_name (i := 1) scwritten.nd rfl (Or.inl rfl)) (fun _ _ _ _ _ => pts_nil) (fun _ _ _ _ _ => (pe_callTy call_strU (by rfl) T.ustr (by decide +kernel) (pa_cons (pv 1) pa_nil)))))))), ?_⟩
  try dsimp only [cxOf]
  obtain ⟨a, xs, ds, rfl, ha, hd, his, e, q⟩ := h
  walk_at "z"
  refine ⟨a, xs, ds, rfl, ha, hd, his, fun H1 s1 => ?_⟩
  walk_at "z"
  cases hb : isDeed ds with
  | false =>
    walk_at "z"
    exact e hb H1 s1
  | true =>
    walk_at "z"
    obtain ⟨dd, rfl⟩ := deed_of hb
    obtain rfl := vals_deed hd
    refine z_m1 ?_
    walk_at "z"
    refine ⟨⟨_, rfl⟩, ?_⟩
    walk_at "z"
    have ha1 := s1 _ _ ha
    refine ⟨a, rfl, ⟨_, SqT.of ha1⟩, fun L hL => ?_⟩
    have hL0 : H L = none := s1.free hL
    have naL : a ≠ L := ne_of_none ha1 hL
    have hw5 := args_len dd
    refine lc_tup (K := K) (a := a) (xs := dd.vals) (fun i H' => Same H H' ∧ H' a = some (.tup dd.vals) ∧ H' L = some (.lst ((dd.words.take i).map V.str))) ⟨s1.set hL0, by rw [upd_ne naL]; exact ha1, by rw [upd_same]; rfl⟩ (fun i H' _ h => SqT.of h.2.1) ?_ ?_
    · rintro i x H' hi ⟨t1, t2, t3⟩
      obtain ⟨y, ey, hy⟩ := vals_words hi
      walk_at "zw"
      walk_at "z"
      refine ⟨rfl, ?_⟩
      walk_at "z"
      have nx : ∃ acc, H' L = some (.lst acc) ∧ acc.length < sizeLine ∧ Same H (upd H' L (.lst (acc ++ [.str y]))) ∧ upd H' L (.lst (acc ++ [.str y])) a = some (.tup dd.vals) ∧ upd H' L (.lst (acc ++ [.str y])) L = some (.lst ((dd.words.take (i + 1)).map V.str)) :=
        ⟨_, t3, by rw [List.length_map, List.length_take, words_args_len]; exact szlt (by omega), t1.set hL0, by rw [upd_ne naL]; exact t2, by rw [upd_same, List.take_add_one, ey, List.map_append]; rfl⟩
      rcases hy with rfl | ⟨n, rfl, rfl, hn⟩
      · exact .inr ⟨y, rfl, nx⟩
      · have := deed_nums hb n hn
        exact .inl ⟨n, rfl, log_small this.1 this.2, nx⟩
    · rintro H' ⟨t1, t2, t3⟩
      rw [List.take_of_length_le (by simp [Deed.words, Deed.vals])] at t3
      refine ⟨_, _, dd.words, rfl, rfl, .inl (SqL.of t3), Nat.le_trans (sum_words hb) (by decide), ?_⟩
      exact q dd rfl hb _ t1
abbrev nShop_deeds : List Str := ["self"]
abbrev pShop_deeds : List Str := ["self"]
theorem scShop_deeds : FnScope nShop_deeds pShop_deeds (defScope sShop_deeds) := ⟨rfl, rfl, rfl, by decide +kernel, rfl, by decide +kernel, by decide +kernel⟩
theorem ok_Shop_deeds {P : Program} {w : World} {K : PySem.W.Frag} {mg : Str → Option Value} {base : Heap} (T : Tx w K mg) : Fk P w K mg base 1 (He.ma K (He.ga K "Shop") "deeds") pShop_deeds (spDeeds K) := by
  refine Fk.mk' T.fShop_deeds scShop_deeds (fun _ _ _ _ _ _ us hl => match us, hl with | [_], _ => rfl) (by
  intro vs H Q E h
  repeat (first | (obtain ⟨h1, _⟩ := h; subst h1; rfl) | (obtain ⟨_, h⟩ := h))) (fun cdv A outer s H vs Q E hr h => ?_)
  have hu := hu_of hr
  have hu64 := hr.units
  refine ⟨_, (pss_one (ps_ret (pe_callTy (k_list K) (by rfl) T.ulist (by decide +kernel) (pa_cons (k_fld K (pv 0) rfl) pa_nil)))), ?_⟩
  try dsimp only [cxOf]
  obtain ⟨x, rfl, h, q⟩ := h
  obtain ⟨⟨kvs, hk, hr⟩, ham, h0, h1, h2, hb, ⟨vs, hd, hdd⟩⟩ := id h.S.cur
  walk_at "z"
  refine z_fldR h.S.ob T.cShop T.aShop_deeds_done lkS_deeds_done ?_
  walk_at "z"
  refine z_listL (SqL.of hd) ?_
  walk_at "zn"
  rename_i l n H1 s1 f1
  exact q H1 l vs s1 n f1 (dvAll_same s1 hdd)
def spPage (K : PySem.W.Frag) : Sp := fun vs H Q E => ∃ x : Ws, vs = [.ref x.s] ∧ x.at K H ∧ (∀ dd ∈ x.now.deeds, isDeed dd.items = true) ∧ x.now.deeds.length ≤ 1000 ∧ ∀ H', Same H H' → Q (.str (pageT x.now.deeds)) H'
abbrev npage : List Str := ["shop", "deed"]
abbrev ppage : List Str := ["shop"]
theorem scpage : FnScope npage ppage (defScope spage) := ⟨rfl, rfl, rfl, by decide +kernel, rfl, by decide +kernel, by decide +kernel⟩
theorem ok_page {P : Program} {w : World} {K : PySem.W.Frag} {mg : Str → Option Value} {base : Heap} (T : Tx w K mg) : Fk P w K mg base 3 (He.ga K "page") ppage (spPage K) := by
  have Gwritten := ok_written (P := P) (w := w) (base := base) T
  have GShop_deeds := ok_Shop_deeds (P := P) (w := w) (base := base) T
  refine Fk.mk' T.fpage scpage (fun _ _ _ _ _ _ us hl => match us, hl with | [_], _ => rfl) (by
  intro vs H Q E h
  repeat (first | (obtain ⟨h1, _⟩ := h; subst h1; rfl) | (obtain ⟨_, h⟩ := h))) (fun cdv A outer s H vs Q E hr h => ?_)
  have hu := hu_of hr
  have hu64 := hr.units
  refine ⟨_, (pss_one (ps_ret (pe_join pe_str (pe_lc (own := [("deed", 1)]) (g := gName 1) rfl scpage.nd (k_pil K (q_meth0 (pv 0) T.cShop T.mShop_deeds GShop_deeds (hr.mono (by omega)) passX)) (blkOk_by (own := [("deed", 1)]) (N := npage) (sc := defScope spage) (by decide +kernel)) (fun _ _ _ _ _ => pg_name (i := 1) scpage.nd rfl (Or.inl rfl)) (fun _ _ _ _ _ => pts_nil) (fun _ _ _ _ _ => (q_call Gwritten (hr.mono (by omega)) T.gwritten passL (pa_cons (pv 1) pa_nil))))))), ?_⟩
  try dsimp only [cxOf]
  obtain ⟨x, rfl, h, hdd, hl, q⟩ := h
  walk_at "z"
  refine z_m1 ?_
  walk_at "z"
  refine ⟨⟨_, rfl⟩, ?_⟩
  walk_at "z"
  refine z_methR h.S.ob noS_deeds ?_
  walk_at "z"
  refine ⟨x, rfl, h, fun H1 l vs s1 nl fl dl => ?_⟩
  refine ⟨l, rfl, ⟨_, SqL.of fl⟩, fun L hL => ?_⟩
  have hvl : vs.length = x.now.deeds.length := by rw [dl.len, List.length_map]
  refine lc_list (K := K) (a := l) (xs := vs) (fun i H' => Same H1 H' ∧ H' L = some (.lst (((x.now.deeds.take i).map Deed.line).map V.str))) ⟨Same.new hL, upd_same⟩ (fun i H' _ h => SqL.of (h.1 _ _ fl)) ?_ ?_
  · rintro i v H' hi ⟨s2, f2⟩
    obtain ⟨d, e1, e2⟩ := dl.get hi
    rw [List.getElem?_map] at e1
    cases ed : x.now.deeds[i]? with
    | none => rw [ed] at e1; cases e1
    | some dd =>
      rw [ed] at e1
      obtain rfl := Option.some.inj e1
      have hok := hdd dd (List.mem_of_getElem? ed)
      have hil : i < x.now.deeds.length := (List.getElem?_eq_some_iff.mp ed).1
      cases e2 with
      | @tup t xs _ ht ha =>
        walk_at "zw"
        walk_at "z"
        refine ⟨rfl, ?_⟩
        walk_at "z"
        refine ⟨t, xs, dd.items, rfl, s2 _ _ ht, dvAll_same s2 ha, items_is dd, fun hb => (by rw [hok] at hb; cases hb), fun dd' e hb H3 s3 => ?_⟩
        obtain rfl := items_inj e
        refine ⟨_, s3 _ _ f2, szlt (by simp; omega), (s2.trans s3).set hL, ?_⟩
        rw [upd_same, List.take_add_one, ed]
        simp
  rintro H2 ⟨s2, f2⟩
  rw [hvl, List.take_of_length_le (Nat.le_refl _)] at f2
  walk_at "zw"
  walk_at "z"
  refine ⟨_, _, x.now.deeds.map Deed.line, rfl, rfl, .inl (SqL.of f2), ?_, ?_⟩
  · refine Nat.le_trans (join_bound (n := 100) (m := 1000) (by rw [List.length_map]; exact hl) (fun y hy => ?_) (by decide +kernel)) (by decide)
    obtain ⟨dd, hd, rfl⟩ := List.mem_map.mp hy
    exact line_len (hdd dd hd)
  · exact q _ (s1.trans s2)
def spBadPage (C : Addr) : Sp := fun vs H Q _ => ∃ a : Addr, ∃ n : Int, vs = [.ref a, .int n] ∧ H a = some (exo a C none) ∧ ∀ dx, H dx = none → dx ≠ a → Q .non (upd (upd H dx (exd dx [("at", .int n)])) a (exo a C (some dx)))
abbrev nBadPage___init__ : List Str := ["self", "at"]
abbrev pBadPage___init__ : List Str := ["self", "at"]
theorem scBadPage___init__ : FnScope nBadPage___init__ pBadPage___init__ (defScope sBadPage___init__) := ⟨rfl, rfl, rfl, by decide +kernel, rfl, by decide +kernel, by decide +kernel⟩
theorem ok_BadPage___init__ {P : Program} {w : World} {K : PySem.W.Frag} {mg : Str → Option Value} {base : Heap} (T : Tx w K mg) : Fk P w K mg base 1 (He.ma K (He.ga K "BadPage") "__init__") pBadPage___init__ (spBadPage (He.ga K "BadPage")) := by
  refine Fk.mk' T.fBadPage___init__ scBadPage___init__ (fun _ _ _ _ _ _ us hl => match us, hl with | [_, _], _ => rfl) (by
  intro vs H Q E h
  repeat (first | (obtain ⟨h1, _⟩ := h; subst h1; rfl) | (obtain ⟨_, h⟩ := h))) (fun cdv A outer s H vs Q E hr h => ?_)
  have hu := hu_of hr
  have hu64 := hr.units
  refine ⟨_, (pss_one (ps_ost (pv 0) (pv 1) rfl)), ?_⟩
  try dsimp only [cxOf]
  obtain ⟨a, n, rfl, ha, q⟩ := h
  unfold tOst
  walk_at "z"
  exact ⟨a, _, rfl, T.oBadPage.c, T.oBadPage.n, .inl ⟨ha, fun dx hdx hne => q dx hdx hne⟩⟩
def spNumIn (B : Addr) : Sp := fun vs H Q E => ∃ z : Str, vs = [.str z] ∧ z.length ≤ 100000 ∧ (∀ x, numOf z = some x → Q (.int x) H) ∧ (numOf z = none → E (.ref B) none H)
abbrev nnumber_in : List Str := ["word", "sign"]
abbrev pnumber_in : List Str := ["word"]
theorem scnumber_in : FnScope nnumber_in pnumber_in (defScope snumber_in) := ⟨rfl, rfl, rfl, by decide +kernel, rfl, by decide +kernel, by decide +kernel⟩
theorem ok_number_in {P : Program} {w : World} {K : PySem.W.Frag} {mg : Str → Option Value} {base : Heap} (T : Tx w K mg) : Fk P w K mg base 1 (He.ga K "number_in") pnumber_in (spNumIn (He.ga K "BadLine")) := by
  refine Fk.mk' T.fnumber_in scnumber_in (fun _ _ _ _ _ _ us hl => match us, hl with | [_], _ => rfl) (by
  intro vs H Q E h
  repeat (first | (obtain ⟨h1, _⟩ := h; subst h1; rfl) | (obtain ⟨_, h⟩ := h))) (fun cdv A outer s H vs Q E hr h => ?_)
  have hu := hu_of hr
  have hu64 := hr.units
  refine ⟨_, (pss_cons (ps_if (PW.pt (pw_or (pt_cmpR (k_eq K hu64) (pv 0) pe_str (nomark _)) (pw_or (pt_cmpR op_gt (pe_callB (k_len K) (by rfl) T.ulen (by decide +kernel) (pa_cons (pv 0) pa_nil)) pe_int (nomark _)) (pw_or1 (PW.pt (pw_and (pt_cmpR (k_eq K hu64) (k_ix K (pv 0) pe_int (fun _ _ => rfl)) pe_str (nomark _)) (pw_and1 (pt_cmpR op_gt (pe_callB (k_len K) (by rfl) T.ulen (by decide +kernel) (pa_cons (pv 0) pa_nil)) pe_int (nomark _))))))))) (pss_one (ps_raise rfl takesX (pmk_own PySem.F.excBase_ValueError T.eBadLine.1 T.gBadLine T.eBadLine.2.1 (raises_own T.eBadLine.2.2.1 T.eBadLine.2.2.2) (by rfl)))) pss_nil)
  (pss_cons (ps_for (passes_of rfl) rfl (pi_str (pv 0)) (pg_name (i := 1) scnumber_in.nd rfl (Or.inl rfl)) (pss_one (ps_if (pt_cmpR op_notIn_sign (pv 1) (q_txt T.zFIGURES) rfl) (pss_one (ps_raise rfl takesX (pmk_own PySem.F.excBase_ValueError T.eBadLine.1 T.gBadLine T.eBadLine.2.1 (raises_own T.eBadLine.2.2.1 T.eBadLine.2.2.2) (by rfl)))) pss_nil)))
  (pss_one (ps_ret (pe_callTy call_intS (by rfl) T.uint (by decide +kernel) (pa_cons (pv 0) pa_nil)))))), ?_⟩
  try dsimp only [cxOf]
  obtain ⟨z, rfl, hl, q, e⟩ := h
  have hz : z.length = (TL.tl z).length := TL.len_tl z
  walk_at "y"
  refine z_joinIf (R := fun σ' H' => σ' = [some (.str z), none] ∧ H' = H ∧ ¬ (TL.tl z = [] ∨ 18 < (TL.tl z).length ∨ ((TL.tl z).head? = some 48 ∧ 1 < (TL.tl z).length))) (fun D' k rt => ?_) ?_
  · walk_at "z"
    refine z_ite (fun c => ?_) (fun c => ?_)
    · walk_at "z"
      refine e ?_
      unfold numOf numL?
      rw [if_pos (.inl (by rw [c]; decide +kernel))]
    walk_at "z"
    refine z_lenS (sz1000 hl) ?_
    walk_at "z"
    refine z_ite (fun c2 => ?_) (fun c2 => ?_)
    · walk_at "z"
      refine e ?_
      unfold numOf numL?
      rw [if_pos (.inr (.inl (by omega)))]
    walk_at "z"
    have hne : TL.tl z ≠ [] := fun h => c (TL.ext_tl (by rw [h]; decide +kernel))
    obtain ⟨c0, r, er⟩ : ∃ c0 r, TL.tl z = c0 :: r := by
      cases h : TL.tl z with
      | nil => exact absurd h hne
      | cons a b => exact ⟨a, b, rfl⟩
    refine .inr (.inr ⟨z, 0, c0, rfl, rfl, sz1000 hl, ?_, ?_⟩)
    · have : atI (TL.tl z) ((0 : Nat) : Int) = some c0 := atI_nat (by rw [er]; rfl)
      exact this
    walk_at "z"
    refine z_ite (fun c3 => ?_) (fun c3 => ?_)
    · have e48 : c0 = 48 := by
        have := congrArg TL.tl c3
        have e0 : TL.tl ("0" : Str) = [48] := by decide +kernel
        rw [e0] at this
        have this : [c0] = [48] := this
        simpa using this
      walk_at "z"
      refine z_lenS (sz1000 hl) ?_
      walk_at "z"
      refine z_ite (fun c4 => ?_) (fun c4 => ?_)
      · walk_at "z"
        refine e ?_
        unfold numOf numL?
        rw [if_pos (.inr (.inr ⟨by rw [er, e48]; rfl, by omega⟩))]
      · walk_at "z"
        refine k _ _ ⟨rfl, rfl, ?_⟩
        rintro (h | h | h)
        · exact hne h
        · omega
        · omega
    · walk_at "z"
      refine k _ _ ⟨rfl, rfl, ?_⟩
      rintro (h | h | h)
      · exact hne h
      · omega
      · refine c3 (TL.ext_tl ?_)
        have h1 := h.1
        rw [er] at h1
        have e0 : TL.tl ("0" : Str) = [48] := by decide +kernel
        rw [e0, Option.some.inj h1]
  rintro σ' H' ⟨rfl, rfl, hc⟩
  walk_at "z"
  refine z_iStr ?_
  walk_at "z"
  refine ⟨z, rfl, ?_⟩
  have hsz : z.cps.size = (TL.tl z).length := by simp [TL.tl]
  refine ⟨fun i m σ H2 => i + m = z.cps.size ∧ H2 = H' ∧ (∀ (j : Nat) (c : Nat), j < i → (TL.tl z)[j]? = some c → 48 ≤ c ∧ c ≤ 57) ∧ ∃ x, σ = [some (.str z), x], ⟨z.cps.size, by omega, rfl, (fun j c hj => absurd hj (Nat.not_lt_zero _)), _, rfl⟩, ?_⟩
  rintro i m σ H2 ⟨hm, rfl, hd, x, rfl⟩
  by_cases hi : i < z.cps.size
  · refine .inr ⟨hi, fun σ' H' => H' = H2 ∧ (∀ (j : Nat) (c : Nat), j < i + 1 → (TL.tl z)[j]? = some c → 48 ≤ c ∧ c ≤ 57) ∧ ∃ x, σ' = [some (.str z), x], ?_, ?_⟩
    · rintro σ' H' ⟨rfl, h1, h2⟩
      exact ⟨m - 1, by omega, by omega, rfl, h1, h2⟩
    · rintro y H' ⟨rfl, c, ec, rfl⟩
      have ec' : (TL.tl z)[i]? = some c := by rw [← ec]; simp [TL.tl]
      walk_at "z"
      refine ⟨c, _, rfl, rfl, ?_⟩
      walk_at "z"
      refine z_iteN (fun c1 => ?_) (fun c1 => ?_)
      · walk_at "z"
        refine e ?_
        unfold numOf numL?
        rw [if_neg hc, if_neg (fun h => ?_)]
        rw [List.all_eq_true] at h
        exact c1 ((figs_mem c).mpr (of_decide_eq_true (h c (List.mem_of_getElem? ec'))))
      · walk_at "z"
        refine ⟨rfl, fun j c' hj ej => ?_, _, rfl⟩
        by_cases hji : j < i
        · exact hd j c' hji ej
        · obtain rfl : j = i := by omega
          rw [ec'] at ej
          obtain rfl := Option.some.inj ej
          exact (figs_mem c).mp c1
  · refine .inl ⟨Nat.le_of_not_lt hi, ?_⟩
    walk_at "z"
    have hall : NumText.AllDigits (TL.tl z) := fun c hc => by
      obtain ⟨j, hj⟩ := List.getElem?_of_mem hc
      exact hd j c (by have := (List.getElem?_eq_some_iff.mp hj).1; omega) hj
    have hne : TL.tl z ≠ [] := fun h => hc (.inl h)
    refine ⟨z, _, rfl, PySem.intText_digits hall hne (by omega), by omega, ?_⟩
    refine q _ ?_
    unfold numOf numL?
    rw [if_neg hc, if_pos (by
      rw [List.all_eq_true]
      exact fun c hc => decide_eq_true (hall c hc))]
def spRead (B : Addr) : Sp := fun vs H Q E => ∃ z : Str, vs = [.str z] ∧ z.length ≤ 50000 ∧ (∀ w ns, readOf z = some (w, ns) → ∀ H' t, Same H H' → H' t = some (.tup (.str w :: ns.map V.int)) → Q (.ref t) H') ∧ (readOf z = none → ∀ H', Same H H' → E (.ref B) none H')
abbrev nread : List Str := ["line", "words", "word"]
abbrev pread : List Str := ["line"]
theorem scread : FnScope nread pread (defScope sread) := ⟨rfl, rfl, rfl, by decide +kernel, rfl, by decide +kernel, by decide +kernel⟩
theorem ok_read {P : Program} {w : World} {K : PySem.W.Frag} {mg : Str → Option Value} {base : Heap} (T : Tx w K mg) : Fk P w K mg base 2 (He.ga K "read") pread (spRead (He.ga K "BadLine")) := by
  have Gnumber_in := ok_number_in (P := P) (w := w) (base := base) T
  refine Fk.mk' T.fread scread (fun _ _ _ _ _ _ us hl => match us, hl with | [_], _ => rfl) (by
  intro vs H Q E h
  repeat (first | (obtain ⟨h1, _⟩ := h; subst h1; rfl) | (obtain ⟨_, h⟩ := h))) (fun cdv A outer s H vs Q E hr h => ?_)
  have hu := hu_of hr
  have hu64 := hr.units
  refine ⟨_, (pss_cons (ps_set (i := 1) scread.nd rfl (Or.inl rfl) (pe_split (pv 0) pe_str))
  (pss_cons (ps_if (pt_cmpR (k_ne K hu64) (pe_kget1 K w (pe_glob (v := .ref (He.ga K "SHAPES")) (by rfl) T.gSHAPES rfl) (k_ix K (pv 1) pe_int (fun _ _ => rfl)) ⟨rfl, rfl, rfl, rfl⟩) (pe_op op_sub (pe_callB (k_len K) (by rfl) T.ulen (by decide +kernel) (pa_cons (pv 1) pa_nil)) pe_int) (nomark _)) (pss_one (ps_raise rfl takesX (pmk_own PySem.F.excBase_ValueError T.eBadLine.1 T.gBadLine T.eBadLine.2.1 (raises_own T.eBadLine.2.2.1 T.eBadLine.2.2.2) (by rfl)))) pss_nil)
  (pss_one (ps_ret (pe_op (k_add K) (pe_tup (pa_cons (k_ix K (pv 1) pe_int (fun _ _ => rfl)) pa_nil)) (pe_callTy (k_tuple K) (by rfl) T.utuple (by decide +kernel) (pa_cons (pe_lcE (own := [("word", 2)]) (g := gName 2) rfl rfl takesX rfl scread.nd (k_pil K (pe_slice (k_sll K) (pv 1) (po_some pe_int) po_none)) (blkOk_by (own := [("word", 2)]) (N := nread) (sc := defScope sread) (by decide +kernel)) (fun _ _ _ _ _ => pg_name (i := 2) scread.nd rfl (Or.inl rfl)) (fun _ _ _ _ _ => pts_nil) (fun _ _ _ _ _ => (q_call Gnumber_in (hr.mono (by omega)) T.gnumber_in passE (pa_cons (pv 2) pa_nil)))) pa_nil))))))), ?_⟩
  try dsimp only [cxOf]
  obtain ⟨z, rfl, hl, q, e⟩ := h
  walk_at "z"
  refine z_m1 ?_
  walk_at "z"
  refine ⟨⟨_, rfl⟩, ?_⟩
  walk_at "z"
  refine ⟨z, " ", rfl, rfl, by decide +kernel, sz1000 (by omega), ?_⟩
  have ew : Txt.split z " " = wordsOf z := rfl
  rw [ew]
  intro W nW
  generalize hH : upd H W _ = H1
  have s1 := new_same nW hH
  have f1 := new_at hH
  clear hH
  have hwl := words_len z
  have hw1 : ∀ w ∈ wordsOf z, w.length ≤ z.length := fun w hw => word_len hw
  obtain ⟨w, r, er⟩ := words_ne z
  unfold readOf at q e
  rw [er] at q e f1 hwl hw1
  walk_at "z"
  refine ⟨_, _, rfl, T.tSHAPES, ?_⟩
  walk_at "z"
  refine z_ixL (SqL.of f1) (atI_of (n := 0) rfl rfl) ?_
  refine ⟨w, rfl, ?_⟩
  walk_at "z"
  refine z_lenL (SqL.of f1) ?_
  walk_at "z"
  have el : ((((w :: r).map V.str).length : Nat) : Int) - 1 = (r.length : Nat) := by simp
  rw [el]
  have fail : shapesL.lookup w ≠ some ((r.length : Nat) : Int) → E (.ref (He.ga K "BadLine")) none H1 := fun hn => e (if_neg hn) H1 s1
  have pass : shapesL.lookup w = some ((r.length : Nat) : Int) → (∀ ns, r.mapM numOf = some ns → ∀ H' t, Same H H' → H' t = some (.tup (.str w :: ns.map V.int)) → Q (.ref t) H') ∧ (r.mapM numOf = none → ∀ H', Same H H' → E (.ref (He.ga K "BadLine")) none H') := fun hs => by
    refine ⟨fun ns en => ?_, fun en => ?_⟩
    · exact q w ns (by show (if shapesL.lookup w = some ((r.length : Nat) : Int) then (r.mapM numOf).map fun ns => (w, ns) else none) = _; rw [if_pos hs, en]; rfl)
    · exact e (by show (if shapesL.lookup w = some ((r.length : Nat) : Int) then (r.mapM numOf).map fun ns => (w, ns) else none) = _; rw [if_pos hs, en]; rfl)
  clear q e
  cases hs : shapesT.lookup w with
  | none =>
    have e1 : tabV shapesT w = .non := by unfold tabV; rw [hs]
    rw [e1]
    refine .inl ⟨rfl, ?_⟩
    walk_at "z"
    refine z_yesN (by intro z; cases z) ?_
    walk_at "z"
    exact fail (by rw [hs]; intro z; cases z)
  | some m =>
    have e1 : tabV shapesT w = .int m := by unfold tabV; rw [hs]
    rw [e1]
    walk_at "z"
    refine z_iteN (fun c1 => ?_) (fun c1 => ?_)
    · walk_at "z"
      exact fail (by rw [hs]; exact fun z => c1 (Option.some.inj z))
    obtain ⟨q, e⟩ := pass (by rw [hs, c1])
    walk_at "z"
    refine z_ixL (SqL.of f1) (atI_of (n := 0) rfl rfl) ?_
    walk_at "z"
    walk_at "zt"
    rename_i T0 nT0 H2 s2 f2
    walk_at "z"
    refine z_slL (ys := r.map V.str) (SqL.of (s2 _ _ f1)) (cut_from _ 1) ?_
    walk_at "zn"
    rename_i P nP H3 s3 f3
    refine ⟨P, rfl, ⟨_, SqL.of f3⟩, fun L hL => ?_⟩
    have s03 := (s1.trans s2).trans s3
    have hL0 : H L = none := s03.free hL
    have nPL : P ≠ L := ne_of_none f3 hL
    have hr1 : r.length ≤ z.length := by
      have := hwl
      simp only [List.length_cons] at this
      omega
    refine lc_list (K := K) (a := P) (xs := r.map V.str) (fun i H' => Same H3 H' ∧ H' P = some (.lst (r.map V.str)) ∧ ∃ ns, (r.take i).mapM numOf = some ns ∧ ns.length = (r.take i).length ∧ H' L = some (.lst (ns.map V.int))) ⟨Same.new hL, by rw [upd_ne nPL]; exact f3, [], by simp, by simp, upd_same⟩ (fun i H' _ h => SqL.of h.2.1) ?_ ?_
    · rintro i x H' hi ⟨t1, t2, ns, t3, t4, t5⟩
      rw [List.getElem?_map] at hi
      cases ei : r[i]? with
      | none => rw [ei] at hi; cases hi
      | some y =>
        rw [ei] at hi
        obtain rfl := Option.some.inj hi
        have hyl := hw1 y (List.mem_cons_of_mem _ (List.mem_of_getElem? ei))
        walk_at "zw"
        walk_at "z"
        refine ⟨rfl, ?_⟩
        walk_at "z"
        refine ⟨y, rfl, by omega, fun n hn => ?_, fun hn => ?_⟩
        · refine ⟨_, t5, by rw [List.length_map, t4, List.length_take]; exact szlt (by omega), t1.set hL, by rw [upd_ne nPL]; exact t2, ns ++ [n], ?_, ?_, by rw [upd_same, List.map_append]; rfl⟩
          · rw [List.take_add_one, ei, List.mapM_append, t3]
            simp [hn]
          · rw [List.take_add_one, ei]; simp [t4]
        · exact e (mapM_none (List.mem_of_getElem? ei) hn) _ (s03.trans t1)
    · rintro H' ⟨t1, t2, ns, t3, t4, t5⟩
      rw [List.length_map, List.take_of_length_le (Nat.le_refl _)] at t3 t4
      walk_at "z"
      refine z_tupL (SqL.of t5) ?_
      walk_at "zn"
      rename_i T1 nT1 H4 s4 f4
      walk_at "z"
      refine z_catT (s4 _ _ (t1 _ _ (s3 _ _ f2))) f4 (by simp [t4]; exact sz1000 (by omega)) ?_
      intro T2 H5 s5 f5
      exact q ns t3 H5 T2 (((s03.trans t1).trans s4).trans s5) f5
theorem z_badPage {C : Addr} {H1 : Hp} {Q : XK} {n : Int} (h : ∀ d H', Same H1 H' → H' d = some (.xd [("at", .int n)]) → Q (.ref C) (some d) H') :
    ([V.int n] : List V).length ≤ 1000 ∧ ∀ a, H1 a = none → spBadPage C (.ref a :: ([V.int n] ++ [])) (upd H1 a (exo a C none))
      (fun v H2 => v = .non ∧ ∃ (d : Addr) (fs : List (Str × V)), H2 a = some (exo a C (some d)) ∧ H2 d = some (exd d fs) ∧ H1 d = none ∧ Q (.ref C) (some d) (upd (del H2 a) d (.xd fs))) (fun _ _ _ => False) := by
  refine ⟨by simp, fun a ha => ⟨a, n, rfl, upd_same, fun dx hdx hne => ⟨rfl, dx, _, upd_same, (upd_ne hne).trans upd_same, (upd_ne hne).symm.trans hdx, h dx _ (fun b o e => ?_) upd_same⟩⟩⟩
  have nd : b ≠ dx := fun z => by
    rw [z, ← upd_ne (H := H1) (o := exo a C none) hne, hdx] at e; cases e
  have na : b ≠ a := fun z => by rw [z, ha] at e; cases e
  rw [upd_ne nd, del_ne na, upd_ne na, upd_ne nd, upd_ne na]
  exact e
def spReadPage (K : PySem.W.Frag) : Sp := fun vs H Q E => ∃ (p : Addr) (A : FA) (D : Addr → Prop) (ps bs : List Pic) (text : Str) (k : Nat), vs = [.ref p, .str text] ∧ FacesAt (He.ga K "Faces") H p A D ps ∧ Base bs ps ∧ bs.length ≤ 8000 + k ∧ k + (linesOf text).length < 900 ∧ (∀ z ∈ linesOf text, z.length ≤ 50000) ∧ text.length ≤ 90000 ∧
  (∀ H' y, y.at K H' → Fresh H p A D ps H' y → y.k ≤ k + (linesOf text).length → y.past.length = y.now.deeds.length → y.ahead = [] → Told37 y → LinesD (linesOf text) y.now.deeds → Q (.ref y.s) H') ∧
  (∀ H' y d i z, y.at K H' → Fresh H p A D ps H' y → y.k ≤ k + (linesOf text).length → Hist y.ps y.now → (linesOf text)[i]? = some z → LinesD ((linesOf text).take i) y.now.deeds → BadL y.ps y.now z → H' d = some (.xd [("at", .int (i + 1 : Nat))]) → E (.ref (He.ga K "BadPage")) (some d) H')
abbrev nread_page : List Str := ["faces", "text", "shop", "at", "line", "bad"]
abbrev pread_page : List Str := ["faces", "text"]
theorem scread_page : FnScope nread_page pread_page (defScope sread_page) := ⟨rfl, rfl, rfl, by decide +kernel, rfl, by decide +kernel, by decide +kernel⟩
theorem ok_read_page {P : Program} {w : World} {K : PySem.W.Frag} {mg : Str → Option Value} {base : Heap} (T : Tx w K mg) : Fk P w K mg base 19 (He.ga K "read_page") pread_page (spReadPage K) := by
  have GShop___init__ := ok_Shop___init__ (P := P) (w := w) (base := base) T
  have GShop_do := ok_Shop_do (P := P) (w := w) (base := base) T
  have GBadPage___init__ := ok_BadPage___init__ (P := P) (w := w) (base := base) T
  have Gread := ok_read (P := P) (w := w) (base := base) T
  refine Fk.mk' T.fread_page scread_page (fun _ _ _ _ _ _ us hl => match us, hl with | [_, _], _ => rfl) (by
  intro vs H Q E h
  repeat (first | (obtain ⟨h1, _⟩ := h; subst h1; rfl) | (obtain ⟨_, h⟩ := h))) (fun cdv A outer s H vs Q E hr h => ?_)
  have hu := hu_of hr
  have hu64 := hr.units
  refine ⟨_, (pss_cons (ps_set (i := 2) scread_page.nd rfl (Or.inl rfl) (q_make T.kShop GShop___init__ (hr.mono (by omega)) T.gShop passX (pa_cons (pv 0) pa_nil)))
  (pss_cons (ps_if (pt_cmpR (k_eq K hu64) (pv 1) pe_str (nomark _)) (pss_one (ps_ret (pv 2))) pss_nil)
  (pss_cons (ps_for (passes_of rfl) rfl (k_enumS K (by rfl) T.uenumerate (pa_cons (pe_split (pv 1) pe_str) pa_nil) pe_int (by decide) (by decide)) (k_pgt (n := 2) K rfl (pgs_cons (pg_name (i := 3) scread_page.nd rfl (Or.inl rfl)) (pgs_cons (pg_name (i := 4) scread_page.nd rfl (Or.inl rfl)) pgs_nil))) (pss_cons (ps_set (i := 5) scread_page.nd rfl (Or.inl rfl) pe_bl)
  (pss_cons (ps_try_only rfl rfl ⟨rfl, by decide, .inl T.gGlassError⟩ takesX (fun W pn xe tk hpo => (pss_one (ps_expr (q_methS (pv 2) T.cShop T.mShop_do GShop_do (hr.mono (by omega)) (fun σ => passAt tk σ) (by exact (pa_cons (q_callS Gread (hr.mono (by omega)) T.gread (fun σ => passAt tk σ) (by exact (pa_cons (pv 4) pa_nil))) pa_nil)))))) (fun a oe cls d pn _ _ => (pss_one (ps_set (i := 5) scread_page.nd rfl (Or.inl rfl) pe_bl))))
  (pss_one (ps_if (pt_val (pv 5)) (pss_one (ps_raise rfl takesX (q_mkO T.oBadPage GBadPage___init__ (hr.mono (by omega)) T.gBadPage passF (pa_cons (pv 3) pa_nil)))) pss_nil)))))
  (pss_one (ps_ret (pv 2)))))), ?_⟩
  try dsimp only [cxOf]
  obtain ⟨p, A, D, ps, bs, text, k, rfl, hF, hB, hbs, hk, hlen, htl, q, e⟩ := h
  walk_at "z"
  refine z_mkS ?_
  walk_at "z"
  refine RawS.of fun H1 s0 B0 s1 hS0 fr0 => ?_
  walk_at "z"
  have ok0 : StOk ps k noneYet := by
    have z10 : SumOk 0 (List.replicate 10 0) := ⟨by simp, fun x hx => by
      rw [List.mem_replicate] at hx
      rw [hx.2]
      exact ⟨Int.le_refl _, pow2 _⟩⟩
    have o : StOk [] 0 noneYet := ⟨by simp [noneYet], by simp [noneYet], by simp [noneYet], by simp [noneYet], by simp [noneYet], by simp [noneYet], by simp [noneYet], z10, z10, z10, by simp [noneYet]⟩
    exact o.mono (qs := ps) (Nat.zero_le _)
  have hx0 : Ws.at ⟨p, A, D, ps, bs, s0, B0, noneYet, [], [], k⟩ K H1 := ⟨hF.same s1, hB, hS0, fun b hb z => hF.nd (fr0 b hb) z, fun st hst => (by
    rcases hst with rfl | z | z
    · exact ok0
    · cases z
    · cases z), hbs, (by dsimp only; omega), Nat.zero_le _⟩
  have fresh : ∀ H' y, y.at K H' → Gone H1 ⟨p, A, D, ps, bs, s0, B0, noneYet, [], [], k⟩ H' y → Fresh H p A D ps H' y := fun H' y hy g =>
    ⟨g.p, g.A, g.ext, fun b o e n => g.keep b o (s1 _ _ e) (fun w => w.elim n fun w => by rw [fr0 b w] at e; cases e), fun b z => s1.free (g.live b z), fun b hb => (g.D b hb).imp id s1.free, fun b hb => (g.m b hb).elim (fr0 b) s1.free⟩
  refine z_ite (fun c => ?_) (fun c => ?_)
  · walk_at "z"
    have el : linesOf text = [] := if_pos c
    refine q H1 ⟨p, A, D, ps, bs, s0, B0, noneYet, [], [], k⟩ hx0 (fresh _ _ hx0 (Gone.refl (Same.refl _))) (Nat.le_add_right _ _) rfl rfl (Told37.new rfl rfl rfl) ?_
    rw [el]
    exact ⟨rfl, fun i z dd h => by simp at h⟩
  · walk_at "z"
    refine z_enumS ?_
    refine z_m1 ?_
    walk_at "z"
    refine ⟨⟨_, rfl⟩, ?_⟩
    walk_at "z"
    refine ⟨text, "\n", rfl, rfl, by decide +kernel, sz1000 (by omega), ?_⟩
    have ew : Txt.split text "\n" = linesOf text := (if_neg c).symm
    rw [ew]
    intro L nL
    generalize hH : upd H1 L _ = H2
    have s2 := new_same nL hH
    have f2 := new_at hH
    clear hH ew
    generalize linesOf text = ls at *
    have nL0 := Ws.at.freshM (x := ⟨p, A, D, ps, bs, s0, B0, noneYet, [], [], k⟩) hx0 nL
    have hx2 := Wd.same hx0 s2
    have fresh2 : ∀ H' y, y.at K H' → Gone H2 ⟨p, A, D, ps, bs, s0, B0, noneYet, [], [], k⟩ H' y → Fresh H p A D ps H' y := fun H' y hy g => fresh H' y hy ((Gone.refl s2).trans g)
    clear fresh
    generalize hx : (⟨p, A, D, ps, bs, s0, B0, noneYet, [], [], k⟩ : Ws) = x0 at *
    have ep : x0.p = p := by rw [← hx]
    have es : x0.s = s0 := by rw [← hx]
    have ek : x0.k = k := by rw [← hx]
    have en : x0.now = noneYet := by rw [← hx]
    have epa : x0.past = [] := by rw [← hx]
    have eah : x0.ahead = [] := by rw [← hx]
    refine ⟨L, _, rfl, SqL.of f2, ?_⟩
    refine for_it (walk_enumS (xs := ls.map V.str) 1) (fun i σ H' => ∃ y : Ws, ∃ x3 x4 x5, σ = [some (.ref p), some (.str text), some (.ref s0), x3, x4, x5] ∧ y.at K H' ∧ Gone H2 x0 H' y ∧ y.k ≤ k + i ∧ y.past.length = y.now.deeds.length ∧ y.ahead = [] ∧ Told37 y ∧ LinesD (ls.take i) y.now.deeds) ⟨x0, _, _, _, rfl, hx2, Gone.refl (Same.refl _), by omega, by rw [epa, en]; rfl, eah, Told37.new en epa eah, by rw [en, List.take_zero]; exact ⟨rfl, fun i z dd h => by simp at h⟩⟩ ?_ ?_ ?_
    · rintro i σ H' _ ⟨y, _, _, _, _, _, g, _⟩
      exact SqL.of (g.keep _ _ f2 nL0)
    · rintro i v σ H' H3 hi ⟨y, x3, x4, x5, rfl, hy, g, hyk, hpl, hah, hist, hl⟩ ⟨T2, u, w, rfl, nT, rfl, e1, e2⟩
      obtain rfl := (Option.some.inj e1)
      rw [List.length_map] at hi
      replace e2 : (ls.map V.str)[i]? = some w := e2
      rw [List.getElem?_map, List.getElem?_eq_getElem hi] at e2
      obtain rfl := (Option.some.inj e2)
      have hz : ls[i]? = some ls[i] := List.getElem?_eq_getElem hi
      generalize ls[i] = z at hz ⊢
      have zl := hlen z (List.mem_of_getElem? hz)
      have sT : Same H' (upd H' T2 (.tup [.int (1 + (i : Nat)), .str z])) := Same.new nT
      have fT : upd H' T2 (.tup [.int (1 + (i : Nat)), .str z]) T2 = some (.tup [.int (1 + (i : Nat)), .str z]) := upd_same
      generalize upd H' T2 (.tup [.int (1 + (i : Nat)), .str z]) = H3 at sT fT ⊢
      refine z_gTup (SqT.of fT) rfl ?_
      walk_at "z"
      have hy3 := Wd.same hy sT
      have ey : y.s = s0 := by rw [g.s, es]
      have g3 := g.trans (Gone.refl sT)
      rw [← ey]
      have bad : ∀ H4, Same H3 H4 → BadL y.ps y.now z → ∀ d H5, Same H4 H5 → H5 d = some (.xd [("at", .int (1 + (i : Nat)))]) → E (.ref (He.ga K "BadPage")) (some d) H5 := fun H4 s4 hb d H5 s5 f5 => by
        rw [show (1 : Int) + (i : Nat) = ((i + 1 : Nat) : Int) by omega] at f5
        exact e H5 y d i z (Wd.same hy3 (s4.trans s5)) (fresh2 _ _ (Wd.same hy3 (s4.trans s5)) (g3.trans (Gone.refl (s4.trans s5)))) (by omega) (hist.h _ (.inl rfl)) hz hl hb f5
      refine ⟨_, _, _, rfl, hy3.S.ob, noS_do, ?_⟩
      walk_at "z"
      refine ⟨z, rfl, zl, fun w ns hr H4 t s4 f4 => ?_, fun hr H4 s4 => ⟨true, T.xBadLine_GlassError, fun _ a _ => ?_, fun z => by cases z⟩⟩
      · obtain ⟨dd, edd⟩ := deed_of (read_deed hr)
        obtain ⟨rfl, rfl⟩ := items_parts edd
        walk_at "z"
        refine ⟨y, t, dd.vals, dd.items, rfl, f4, .cons (.str _) (DvAll.ints _), items_is dd, Wd.same hy3 s4, by omega, fun hb => absurd (read_deed hr) (by rw [edd, hb]; simp), fun dd' e' hd => ?_⟩
        obtain rfl := items_inj e'
        refine ⟨fun c hc H5 s5 => ?_, fun hr2 H5 y5 hy5 g5 e1 e2 e3 e4 e5 => ?_⟩
        · have hb : PySem.W.exmOne K (.ref (He.ga K c)) (.ref (He.ga K "GlassError")) = some true := by
            have hi := refuse_in hc
            simp only [List.mem_cons, List.not_mem_nil, or_false] at hi
            rcases hi with rfl | rfl | rfl | rfl | rfl | rfl | rfl | rfl | rfl | rfl
            · exact T.xBadColour_GlassError
            · exact T.xBadThickness_GlassError
            · exact T.xBadLength_GlassError
            · exact T.xNoRod_GlassError
            · exact T.xBadSteps_GlassError
            · exact T.xTooThin_GlassError
            · exact T.xTwice_GlassError
            · exact T.xUnlike_GlassError
            · exact T.xTooThick_GlassError
            · exact T.xBadTurn_GlassError
          refine ⟨true, hb, fun _ a _ => ?_, fun z => by cases z⟩
          walk_at "z"
          unfold tMkO
          walk_at "z"
          exact z_badPage fun d H6 s6 f6 => bad H5 (s4.trans s5) (.inr ⟨_, hr, by rw [hc]; simp⟩) d H6 s6 f6
        · walk_at "z"
          have ok := hy.ok _ (.inl rfl)
          obtain ⟨q5, eq⟩ := g5.ext
          refine ⟨y5, _, _, _, rfl, hy5, (g3.trans (Gone.refl s4)).trans g5, by omega, ?_, e3, ?_, ?_⟩
          · rw [e2, e1, eff_deeds, List.length_append, List.length_append, hpl]; rfl
          · exact hist.step hy ⟨q5, eq⟩ hd hr2 e1 e2 e3 e4 e5
          · rw [e1, eff_deeds, List.take_add_one, hz]
            exact hl.snoc hr
      · walk_at "z"
        unfold tMkO
        walk_at "z"
        exact z_badPage fun d H6 s6 f6 => bad H4 s4 (.inl hr) d H6 s6 f6
    · rintro σ H' ⟨y, x3, x4, x5, rfl, hy, g, hyk, hpl, hah, hist, hl⟩
      rw [List.length_map] at hyk hl
      rw [List.take_of_length_le (Nat.le_refl _)] at hl
      walk_at "z"
      have := q H' y hy (fresh2 _ _ hy g) hyk hpl hah hist hl
      rw [g.s, es] at this
      exact this
def isWhole : PyData → Bool
  | .int _ => true
  | _ => false
def spWhole : Sp := fun vs H Q _ => ∃ x d, vs = [x] ∧ Dv H x d ∧ Q (.bl (isWhole d)) H
abbrev n_law_whole : List Str := ["_law_found"]
abbrev p_law_whole : List Str := ["_law_found"]
theorem sc_law_whole : FnScope n_law_whole p_law_whole (defScope s_law_whole) := ⟨rfl, rfl, rfl, by decide +kernel, rfl, by decide +kernel, by decide +kernel⟩
theorem ok__law_whole {P : Program} {w : World} {K : PySem.W.Frag} {mg : Str → Option Value} {base : Heap} (T : Tx w K mg) : Fk P w K mg base 1 (He.ga K "_law_whole") p_law_whole (spWhole) := by
  refine Fk.mk' T.f_law_whole sc_law_whole (fun _ _ _ _ _ _ us hl => match us, hl with | [_], _ => rfl) (by
  intro vs H Q E h
  repeat (first | (obtain ⟨h1, _⟩ := h; subst h1; rfl) | (obtain ⟨_, h⟩ := h))) (fun cdv A outer s H vs Q E hr h => ?_)
  have hu := hu_of hr
  have hu64 := hr.units
  refine ⟨_, (pss_one (ps_ret (pe_and (pe_callB (k_isi K) (by rfl) T.uisinstance (by decide +kernel) (pa_cons (pv 0) (pa_cons (pe_bltn (v := .ty "int") (by rfl) T.uint (by decide +kernel) rfl) pa_nil))) (pe_one (pe_not (pe_callB (k_isi K) (by rfl) T.uisinstance (by decide +kernel) (pa_cons (pv 0) (pa_cons (pe_bltn (v := .ty "bool") (by rfl) T.ubool (by decide +kernel) rfl) pa_nil)))))))), ?_⟩
  try dsimp only [cxOf]
  obtain ⟨x, d, rfl, hd, q⟩ := h
  walk_at "z"
  cases hd with
  | int i =>
    refine z_isI true (by decide +kernel) ?_
    walk_at "z"
    refine z_isI false (by decide +kernel) ?_
    walk_at "z"
    exact q
  | non => exact z_isNn false (by decide +kernel) (by walk_at "z"; exact q)
  | bl b => exact z_isBl true (by decide +kernel) (by walk_at "z"; exact z_isBl true (by decide +kernel) (by walk_at "z"; exact q))
  | str x => exact z_isS false (by decide +kernel) (by walk_at "z"; exact q)
  | lst h1 h2 => exact z_isL false h1 (by decide +kernel) (by walk_at "z"; exact q)
  | tup h1 h2 => exact z_isT false h1 (by decide +kernel) (by walk_at "z"; exact q)
/-- the same data on both sides: True comes out -/
def spLike (n : Nat) : Sp := fun vs H Q _ => ∃ x y d, vs = [x, y] ∧ Dv H x d ∧ Dv H y d ∧ dpt d < n ∧ ∀ H', Same H H' → Q (.bl true) H'
abbrev n_law_like : List Str := ["_law_found", "_law_due", "_law_one", "_law_other"]
abbrev p_law_like : List Str := ["_law_found", "_law_due"]
theorem sc_law_like : FnScope n_law_like p_law_like (defScope s_law_like) := ⟨rfl, rfl, rfl, by decide +kernel, rfl, by decide +kernel, by decide +kernel⟩
theorem ok__law_like {P : Program} {w : World} {K : PySem.W.Frag} {mg : Str → Option Value} {base : Heap} (T : Tx w K mg) : ∀ n : Nat, Fk P w K mg base (1 + n) (He.ga K "_law_like") p_law_like (spLike n)
  | 0 => (Fk.no T.f_law_like (fun _ _ _ _ _ _ us hl => match us, hl with | [_, _], _ => rfl) (fun vs H Q E ⟨x, y, d, _, _, _, h, _⟩ => absurd h (Nat.not_lt_zero _))).up (by omega)
  | n + 1 => by
      have GR := ok__law_like (P := P) (w := w) (base := base) T n
      have G_law_whole := ok__law_whole (P := P) (w := w) (base := base) T
      refine Fk.mk' (k := 1 + n) T.f_law_like sc_law_like (fun _ _ _ _ _ _ us hl => match us, hl with | [_, _], _ => rfl) (by
        intro vs H Q E h
        repeat (first | (obtain ⟨h1, _⟩ := h; subst h1; rfl) | (obtain ⟨_, h⟩ := h))) (fun cdv A outer s H vs Q E hr h => ?_)
      have hu := hu_of hr
      have hu64 := hr.units
      refine ⟨_, (pss_cons (ps_if (pt_cmpR op_isX (pv 1) pe_non (nomark _)) (pss_one (ps_ret (pe_cmpR op_isX (pv 0) pe_non (nomark _)))) pss_nil)
      (pss_cons (ps_if (pt_cmpR op_isX (pv 1) pe_bl (nomark _)) (pss_one (ps_ret (pe_cmpR op_isX (pv 0) pe_bl (nomark _)))) pss_nil)
      (pss_cons (ps_if (pt_cmpR op_isX (pv 1) pe_bl (nomark _)) (pss_one (ps_ret (pe_cmpR op_isX (pv 0) pe_bl (nomark _)))) pss_nil)
      (pss_cons (ps_if (pt_val (pe_callB (k_isi K) (by rfl) T.uisinstance (by decide +kernel) (pa_cons (pv 1) (pa_cons (pe_bltn (v := .ty "int") (by rfl) T.uint (by decide +kernel) rfl) pa_nil)))) (pss_one (ps_ret (pe_and (q_call G_law_whole (hr.mono (by omega)) T.g_law_whole passX (pa_cons (pv 0) pa_nil)) (pe_one (pe_cmpR (k_eq K hu64) (pv 0) (pv 1) (nomark _)))))) pss_nil)
      (pss_cons (ps_if (pt_val (pe_callB (k_isi K) (by rfl) T.uisinstance (by decide +kernel) (pa_cons (pv 1) (pa_cons (pe_bltn (v := .ty "str") (by rfl) T.ustr (by decide +kernel) rfl) pa_nil)))) (pss_one (ps_ret (pe_and (pe_callB (k_isi K) (by rfl) T.uisinstance (by decide +kernel) (pa_cons (pv 0) (pa_cons (pe_bltn (v := .ty "str") (by rfl) T.ustr (by decide +kernel) rfl) pa_nil))) (pe_one (pe_cmpR (k_eq K hu64) (pv 0) (pv 1) (nomark _)))))) pss_nil)
      (pss_cons (ps_if (PW.pt (pw_and (pt_val (pe_callB (k_isi K) (by rfl) T.uisinstance (by decide +kernel) (pa_cons (pv 1) (pa_cons (pe_bltn (v := .ty "tuple") (by rfl) T.utuple (by decide +kernel) rfl) pa_nil)))) (pw_and1 (pt_not (pt_val (pe_callB (k_isi K) (by rfl) T.uisinstance (by decide +kernel) (pa_cons (pv 0) (pa_cons (pe_bltn (v := .ty "tuple") (by rfl) T.utuple (by decide +kernel) rfl) pa_nil)))))))) (pss_one (ps_ret pe_bl)) pss_nil)
      (pss_cons (ps_if (PW.pt (pw_and (pt_val (pe_callB (k_isi K) (by rfl) T.uisinstance (by decide +kernel) (pa_cons (pv 1) (pa_cons (pe_bltn (v := .ty "list") (by rfl) T.ulist (by decide +kernel) rfl) pa_nil)))) (pw_and1 (pt_not (pt_val (pe_callB (k_isi K) (by rfl) T.uisinstance (by decide +kernel) (pa_cons (pv 0) (pa_cons (pe_bltn (v := .ty "list") (by rfl) T.ulist (by decide +kernel) rfl) pa_nil)))))))) (pss_one (ps_ret pe_bl)) pss_nil)
      (pss_cons (ps_if (pt_cmpR (k_ne K hu64) (pe_callB (k_len K) (by rfl) T.ulen (by decide +kernel) (pa_cons (pv 0) pa_nil)) (pe_callB (k_len K) (by rfl) T.ulen (by decide +kernel) (pa_cons (pv 1) pa_nil)) (nomark _)) (pss_one (ps_ret pe_bl)) pss_nil)
      (pss_cons (ps_for (passes_of rfl) rfl (k_zip K (by rfl) T.uzip (pa_cons (pv 0) (pa_cons (pv 1) pa_nil))) (k_pgt (n := 2) K rfl (pgs_cons (pg_name (i := 2) sc_law_like.nd rfl (Or.inl rfl)) (pgs_cons (pg_name (i := 3) sc_law_like.nd rfl (Or.inl rfl)) pgs_nil))) (pss_one (ps_if (pt_not (pt_val (q_call GR (hr.mono (by omega)) T.g_law_like passX (pa_cons (pv 2) (pa_cons (pv 3) pa_nil))))) (pss_one (ps_ret pe_bl)) pss_nil)))
      (pss_one (ps_ret pe_bl))))))))))), ?_⟩
      try dsimp only [cxOf]
      obtain ⟨x, y, d, rfl, hx, hy, hd, q⟩ := h
      walk_at "z"
      cases hx with
      | non =>
        cases hy
        refine z_yes rfl ?_
        walk_at "z"
        exact q H (Same.refl H)
      | bl b =>
        cases hy
        refine z_no (by intro z; cases z) ?_
        walk_at "z"
        cases b with
        | true =>
          refine z_yes rfl ?_
          walk_at "z"
          exact q H (Same.refl H)
        | false =>
          refine z_no (by intro z; cases z) ?_
          walk_at "z"
          refine z_yes rfl ?_
          walk_at "z"
          exact q H (Same.refl H)
      | int i =>
        cases hy
        refine z_no (by intro z; cases z) ?_
        walk_at "z"
        refine z_no (by intro z; cases z) ?_
        walk_at "z"
        refine z_no (by intro z; cases z) ?_
        walk_at "z"
        refine z_isI true (by decide +kernel) ?_
        walk_at "z"
        refine ⟨_, _, rfl, .int i, ?_⟩
        walk_at "z"
        refine iteT ?_
        walk_at "z"
        have e : decide (i = i) = true := decide_eq_true rfl
        rw [e]
        exact q H (Same.refl H)
      | str i =>
        cases hy
        refine z_no (by intro z; cases z) ?_
        walk_at "z"
        refine z_no (by intro z; cases z) ?_
        walk_at "z"
        refine z_no (by intro z; cases z) ?_
        walk_at "z"
        refine z_isS false (by decide +kernel) ?_
        walk_at "z"
        refine z_isS true (by decide +kernel) ?_
        walk_at "z"
        refine z_isS true (by decide +kernel) ?_
        walk_at "z"
        have e : decide (i = i) = true := decide_eq_true rfl
        rw [e]
        exact q H (Same.refl H)
      | @tup a xs ds ha hxs =>
        cases hy with
        | @tup b ys _ hb hys =>
        have hl : xs.length = ys.length := by rw [hxs.len, hys.len]
        refine z_no (by intro z; cases z) ?_
        walk_at "z"
        refine z_no (by intro z; cases z) ?_
        walk_at "z"
        refine z_no (by intro z; cases z) ?_
        walk_at "z"
        refine z_isT false hb (by decide +kernel) ?_
        walk_at "z"
        refine z_isT false hb (by decide +kernel) ?_
        walk_at "z"
        refine z_isT true hb (by decide +kernel) ?_
        walk_at "z"
        refine z_isT true ha (by decide +kernel) ?_
        walk_at "z"
        refine z_isT false hb (by decide +kernel) ?_
        walk_at "z"
        refine z_lenT (SqT.of ha) ?_
        walk_at "z"
        refine z_lenT (SqT.of hb) ?_
        walk_at "z"
        refine z_noN (by rw [hl]) ?_
        walk_at "z"
        refine ⟨_, _, _, _, rfl, .inr ⟨SqT.of ha, SqT.of hb, ?_⟩⟩
        refine RZ.for_zipT hl (fun i σ H' => ∃ u v, σ = [some (.ref a), some (.ref b), u, v] ∧ Same H H') ⟨_, _, rfl, Same.refl H⟩ (fun i σ H' ⟨_, _, _, s⟩ => ⟨s.tup (SqT.of ha), s.tup (SqT.of hb)⟩) ?_ ?_
        · rintro i x y T σ H' ex ey ⟨u, v, rfl, s1⟩ nT
          refine z_gTup (SqT.of upd_same) rfl ?_
          walk_at "z"
          obtain ⟨d, e1, e2⟩ := hxs.get ex
          obtain ⟨d', e1', e2'⟩ := hys.get ey
          cases e1.symm.trans e1'
          have s2 : Same H (upd H' T (.tup [x, y])) := s1.trans (Same.new nT)
          refine ⟨x, y, d, rfl, dv_same s2 e2, dv_same s2 e2', ?_, fun H2 s3 => ?_⟩
          · have := dpt_mem e1
            simp only [dpt] at hd
            omega
          · walk_at "z"
            exact ⟨_, _, rfl, s2.trans s3⟩
        · rintro σ H' ⟨u, v, rfl, s1⟩
          walk_at "z"
          exact q _ s1
      | @lst a xs ds ha hxs =>
        cases hy with
        | @lst b ys _ hb hys =>
        have hl : xs.length = ys.length := by rw [hxs.len, hys.len]
        refine z_no (by intro z; cases z) ?_
        walk_at "z"
        refine z_no (by intro z; cases z) ?_
        walk_at "z"
        refine z_no (by intro z; cases z) ?_
        walk_at "z"
        refine z_isL false hb (by decide +kernel) ?_
        walk_at "z"
        refine z_isL false hb (by decide +kernel) ?_
        walk_at "z"
        refine z_isL false hb (by decide +kernel) ?_
        walk_at "z"
        refine z_isL true hb (by decide +kernel) ?_
        walk_at "z"
        refine z_isL true ha (by decide +kernel) ?_
        walk_at "z"
        refine z_lenL (SqL.of ha) ?_
        walk_at "z"
        refine z_lenL (SqL.of hb) ?_
        walk_at "z"
        refine z_noN (by rw [hl]) ?_
        walk_at "z"
        refine ⟨_, _, _, _, rfl, .inl ⟨SqL.of ha, SqL.of hb, ?_⟩⟩
        refine RZ.for_zipL hl (fun i σ H' => ∃ u v, σ = [some (.ref a), some (.ref b), u, v] ∧ Same H H') ⟨_, _, rfl, Same.refl H⟩ (fun i σ H' ⟨_, _, _, s⟩ => ⟨s.seq (SqL.of ha), s.seq (SqL.of hb)⟩) ?_ ?_
        · rintro i x y T σ H' ex ey ⟨u, v, rfl, s1⟩ nT
          refine z_gTup (SqT.of upd_same) rfl ?_
          walk_at "z"
          obtain ⟨d, e1, e2⟩ := hxs.get ex
          obtain ⟨d', e1', e2'⟩ := hys.get ey
          cases e1.symm.trans e1'
          have s2 : Same H (upd H' T (.tup [x, y])) := s1.trans (Same.new nT)
          refine ⟨x, y, d, rfl, dv_same s2 e2, dv_same s2 e2', ?_, fun H2 s3 => ?_⟩
          · have := dpt_mem e1
            simp only [dpt] at hd
            omega
          · walk_at "z"
            exact ⟨_, _, rfl, s2.trans s3⟩
        · rintro σ H' ⟨u, v, rfl, s1⟩
          walk_at "z"
          exact q _ s1
def spRefused (K : PySem.W.Frag) : Sp := fun vs H Q _ => ∃ (text : Str) (n : Int), vs = [.str text, .int n] ∧ (linesOf text).length < 900 ∧ (∀ z ∈ linesOf text, z.length ≤ 50000) ∧ text.length ≤ 90000 ∧ BadAt text n ∧ ∀ H', Same H H' → Q (.bl true) H'
abbrev n_law_refused : List Str := ["_law_text", "_law_at", "_law_told", "e"]
abbrev p_law_refused : List Str := ["_law_text", "_law_at"]
theorem sc_law_refused : FnScope n_law_refused p_law_refused (defScope s_law_refused) := ⟨rfl, rfl, rfl, by decide +kernel, rfl, by decide +kernel, by decide +kernel⟩
theorem ok__law_refused {P : Program} {w : World} {K : PySem.W.Frag} {mg : Str → Option Value} {base : Heap} (T : Tx w K mg) : Fk P w K mg base 20 (He.ga K "_law_refused") p_law_refused (spRefused K) := by
  have G_law_like := ok__law_like (P := P) (w := w) (base := base) T 8
  have Gread_page := ok_read_page (P := P) (w := w) (base := base) T
  have GFaces___init__ := ok_Faces___init__ (P := P) (w := w) (base := base) T
  refine Fk.mk' T.f_law_refused sc_law_refused (fun _ _ _ _ _ _ us hl => match us, hl with | [_, _], _ => rfl) (by
  intro vs H Q E h
  repeat (first | (obtain ⟨h1, _⟩ := h; subst h1; rfl) | (obtain ⟨_, h⟩ := h))) (fun cdv A outer s H vs Q E hr h => ?_)
  have hu := hu_of hr
  have hu64 := hr.units
  refine ⟨_, (pss_cons (ps_set (i := 2) sc_law_refused.nd rfl (Or.inl rfl) pe_non)
  (pss_cons (ps_try_as (i := 3) rfl rfl sc_law_refused.nd rfl rfl ⟨rfl, by decide, .inl T.gBadPage⟩ takesX (fun W pn xe tk hpo => (pss_one (ps_expr (q_callS Gread_page (hr.mono (by omega)) T.gread_page (fun σ => passAt tk σ) (by exact (pa_cons (q_make0 T.kFaces GFaces___init__ (hr.mono (by omega)) T.gFaces (passTF tk)) (pa_cons (pv 0) pa_nil))))))) (fun a oe cls d pn hz hf => (pss_one (ps_set (i := 2) sc_law_refused.nd rfl (Or.inl rfl) (pe_xf T.oBadPage.x T.oBadPage.n hz hf (pv 3))))))
  (pss_one (ps_ret (q_call G_law_like (hr.mono (by omega)) T.g_law_like passX (pa_cons (pv 2) (pa_cons (pv 1) pa_nil))))))), ?_⟩
  try dsimp only [cxOf]
  obtain ⟨text, n, rfl, hlen, hll, htl, hb, q⟩ := h
  walk_at "z"
  refine z_mkFaces fun H1 p A D0 s1 hF0 hD0 => ?_
  walk_at "z"
  refine ⟨p, A, D0, [], [], text, 0, rfl, hF0, by simp [Base], by decide, by omega, hll, htl, fun H2 y hy fr hk _ _ hist hl => absurd hl (hb.at hy.F.inv.nd (hist.h _ (.inl rfl))).1, fun H2 y d i z hy fr hk hist hz hl bz hd => ⟨true, T.xBadPage_BadPage, fun _ a ha => ?_, fun z => by cases z⟩⟩
  have en := (hb.at hy.F.inv.nd hist).2 i z hz hl bz
  have s2 : Same H H2 := fun b o e => fr.keep b o (s1 _ _ e) (fun w => by rw [hD0 b (hF0.df b w)] at e; cases e)
  walk_at "z"
  unfold tXf
  walk_at "z"
  refine ⟨rfl, rfl, d, _, _, rfl, hd, rfl, ?_⟩
  walk_at "z"
  rw [← en]
  refine ⟨_, _, .int n, rfl, .int _, .int _, by simp [dpt], fun H3 s3 => ?_⟩
  walk_at "z"
  exact q _ (s2.trans s3)
def spBad : Sp := fun vs H Q _ => ∃ c : Int, vs = [.int c] ∧ ∀ H', Same H H' → Q (.str (badsL.getD (c % 18).toNat "")) H'
abbrev n_law_bad : List Str := ["_law_cell_here", "_law_some"]
abbrev p_law_bad : List Str := ["_law_cell_here"]
theorem sc_law_bad : FnScope n_law_bad p_law_bad (defScope s_law_bad) := ⟨rfl, rfl, rfl, by decide +kernel, rfl, by decide +kernel, by decide +kernel⟩
theorem ok__law_bad {P : Program} {w : World} {K : PySem.W.Frag} {mg : Str → Option Value} {base : Heap} (T : Tx w K mg) : Fk P w K mg base 1 (He.ga K "_law_bad") p_law_bad (spBad) := by
  refine Fk.mk' T.f_law_bad sc_law_bad (fun _ _ _ _ _ _ us hl => match us, hl with | [_], _ => rfl) (by
  intro vs H Q E h
  repeat (first | (obtain ⟨h1, _⟩ := h; subst h1; rfl) | (obtain ⟨_, h⟩ := h))) (fun cdv A outer s H vs Q E hr h => ?_)
  have hu := hu_of hr
  have hu64 := hr.units
  refine ⟨_, (pss_cons (ps_set (i := 1) sc_law_bad.nd rfl (Or.inl rfl) (pe_lst (pa_cons pe_str (pa_cons pe_str (pa_cons pe_str (pa_cons pe_str (pa_cons pe_str (pa_cons pe_str (pa_cons pe_str (pa_cons pe_str (pa_cons pe_str pa_nil)))))))))))
  (pss_cons (ps_set (i := 1) sc_law_bad.nd rfl (Or.inl rfl) (pe_op (k_add K) (pv 1) (pe_lst (pa_cons pe_str (pa_cons pe_str (pa_cons pe_str (pa_cons pe_str (pa_cons pe_str (pa_cons pe_str pa_nil)))))))))
  (pss_cons (ps_set (i := 1) sc_law_bad.nd rfl (Or.inl rfl) (pe_op (k_add K) (pv 1) (pe_lst (pa_cons pe_str (pa_cons pe_str (pa_cons pe_str pa_nil))))))
  (pss_one (ps_ret (k_ix K (pv 1) (pe_op op_mod (pv 0) pe_int) (fun _ _ => rfl))))))), ?_⟩
  try dsimp only [cxOf]
  obtain ⟨c, rfl, q⟩ := h
  walk_at "z"
  refine ⟨sz1000 (by simp), ?_⟩
  walk_at "zn"
  rename_i l1 n1 H1 s1 f1
  walk_at "z"
  refine ⟨sz1000 (by simp), ?_⟩
  walk_at "zn"
  rename_i l2 n2 H2 s2 f2
  refine z_addL (s2 _ _ f1) f2 (sz1000 (by simp)) ?_
  walk_at "zn"
  rename_i l3 n3 H3 s3 f3
  walk_at "z"
  refine ⟨sz1000 (by simp), ?_⟩
  walk_at "zn"
  rename_i l4 n4 H4 s4 f4
  refine z_addL (s4 _ _ f3) f4 (sz1000 (by simp)) ?_
  walk_at "zn"
  rename_i l5 n5 H5 s5 f5
  walk_at "z"
  refine z_I (by decide) ?_
  walk_at "z"
  have c0 := Int.emod_nonneg c (show (18 : Int) ≠ 0 by decide)
  have c1 := Int.emod_lt_of_pos c (show (0 : Int) < 18 by decide)
  have q := q
  obtain ⟨n, en⟩ : ∃ n : Nat, c % 18 = (n : Int) := ⟨(c % 18).toNat, by omega⟩
  rw [en] at q ⊢
  have e5 : H5 l5 = some (.lst (badsL.map V.str)) := f5
  refine z_ixL (SqL.of e5) (atI_of (n := n) (v := .str (badsL.getD n "")) (by
    have hn : n < badsL.length := by show n < 18; omega
    show (badsL.map V.str)[n]? = _
    rw [List.getElem?_map, List.getElem?_eq_getElem hn, List.getD_eq_getElem?_getD, List.getElem?_eq_getElem hn]; rfl) rfl) ?_
  walk_at "z"
  exact q _ (s1.trans (s2.trans (s3.trans (s4.trans s5))))
def spSpoiltP (K : PySem.W.Frag) : Sp := fun vs H Q _ => ∃ (L : Addr) (c : Int) (p0 : List Pic) (s0 : SS), vs = [.ref L, .int c] ∧ Hist p0 s0 ∧ p0.Nodup ∧ s0.deeds.length ≤ 100 ∧ H L = some (.lst ((s0.deeds.map Deed.line).map V.str)) ∧ ∀ H', Same H H' → Q (.bl true) H'
abbrev n_law_spoilt : List Str := ["_law_lines", "_law_cell_here", "_law_at", "_law_bad_here", "_law_more", "_law_rows"]
abbrev p_law_spoilt : List Str := ["_law_lines", "_law_cell_here"]
theorem sc_law_spoilt : FnScope n_law_spoilt p_law_spoilt (defScope s_law_spoilt) := ⟨rfl, rfl, rfl, by decide +kernel, rfl, by decide +kernel, by decide +kernel⟩
theorem ok__law_spoilt {P : Program} {w : World} {K : PySem.W.Frag} {mg : Str → Option Value} {base : Heap} (T : Tx w K mg) : Fk P w K mg base 21 (He.ga K "_law_spoilt") p_law_spoilt (spSpoiltP K) := by
  have G_law_refused := ok__law_refused (P := P) (w := w) (base := base) T
  have G_law_bad := ok__law_bad (P := P) (w := w) (base := base) T
  refine Fk.mk' T.f_law_spoilt sc_law_spoilt (fun _ _ _ _ _ _ us hl => match us, hl with | [_, _], _ => rfl) (by
  intro vs H Q E h
  repeat (first | (obtain ⟨h1, _⟩ := h; subst h1; rfl) | (obtain ⟨_, h⟩ := h))) (fun cdv A outer s H vs Q E hr h => ?_)
  have hu := hu_of hr
  have hu64 := hr.units
  refine ⟨_, (pss_cons (ps_set (i := 2) sc_law_spoilt.nd rfl (Or.inl rfl) (pe_op op_mod (pe_op op_fdivW (pv 1) pe_int) (pe_op (k_add K) (pe_callB (k_len K) (by rfl) T.ulen (by decide +kernel) (pa_cons (pv 0) pa_nil)) pe_int)))
  (pss_cons (ps_set (i := 3) sc_law_spoilt.nd rfl (Or.inl rfl) (pe_op (k_add K) (pe_op (k_add K) (pv 2) pe_int) (pe_m1 PySem.F.slot_str_count PySem.F.type_str_count mt_count (q_call G_law_bad (hr.mono (by omega)) T.g_law_bad passX (pa_cons (pv 1) pa_nil)) pe_str)))
  (pss_cons (ps_set (i := 4) sc_law_spoilt.nd rfl (Or.inl rfl) (pe_slice (k_sll K) (pe_lst (pa_cons (q_call G_law_bad (hr.mono (by omega)) T.g_law_bad passX (pa_cons (pe_op op_fdivW (pv 1) pe_int) pa_nil)) pa_nil)) po_none (po_some (pe_op op_mod (pe_op op_fdivW (pv 1) pe_int) pe_int))))
  (pss_cons (ps_if (PW.pt (pw_and (pt_cmpR (k_eqNil K hu) (pe_op (k_add K) (pv 0) (pv 4)) (pe_lst pa_nil) (nomark _)) (pw_and1 (pt_cmpR (k_eq K hu64) (q_call G_law_bad (hr.mono (by omega)) T.g_law_bad passX (pa_cons (pv 1) pa_nil)) pe_str (nomark _))))) (pss_one (ps_ret pe_bl)) pss_nil)
  (pss_cons (ps_set (i := 5) sc_law_spoilt.nd rfl (Or.inl rfl) (pe_op (k_add K) (pe_op (k_add K) (pe_op (k_add K) (pe_slice (k_sll K) (pv 0) po_none (po_some (pv 2))) (pe_lst (pa_cons (q_call G_law_bad (hr.mono (by omega)) T.g_law_bad passX (pa_cons (pv 1) pa_nil)) pa_nil))) (pv 4)) (pe_slice (k_sll K) (pv 0) (po_some (pv 2)) po_none)))
  (pss_one (ps_ret (q_call G_law_refused (hr.mono (by omega)) T.g_law_refused passX (pa_cons (pe_join pe_str (pv 5)) (pa_cons (pv 3) pa_nil)))))))))), ?_⟩
  try dsimp only [cxOf]
  obtain ⟨L, c, p0, s0, rfl, h0, n0, hl, hL, q⟩ := h
  walk_at "z"
  refine z_I (divW (by decide) (by decide)) ?_
  walk_at "z"
  refine z_lenL (SqL.of hL) ?_
  rw [List.length_map, List.length_map]
  walk_at "z"
  refine z_I (by omega) ?_
  walk_at "z"
  have g0 := Int.emod_nonneg (c / 18) (show ((s0.deeds.length : Nat) : Int) + 1 ≠ 0 by omega)
  have g1 := Int.emod_lt_of_pos (c / 18) (show (0 : Int) < ((s0.deeds.length : Nat) : Int) + 1 by omega)
  obtain ⟨a, ea⟩ : ∃ a : Nat, c / 18 % (((s0.deeds.length : Nat) : Int) + 1) = (a : Int) := ⟨(c / 18 % (((s0.deeds.length : Nat) : Int) + 1)).toNat, by omega⟩
  rw [ea] at g1 ⊢
  refine z_m1 ?_
  walk_at "z"
  refine ⟨c, rfl, fun H1 s1 => ?_⟩
  refine ⟨⟨_, rfl⟩, ?_⟩
  walk_at "z"
  refine ⟨_, _, rfl, rfl, ?_⟩
  walk_at "z"
  have n0' := Int.emod_nonneg c (show (18 : Int) ≠ 0 by decide)
  have n1' := Int.emod_lt_of_pos c (show (0 : Int) < 18 by decide)
  obtain ⟨n, en⟩ : ∃ n : Nat, n = (c % 18).toNat := ⟨_, rfl⟩
  rw [← en]
  have hn : n < 18 := by omega
  refine z_I (divW (by decide) (by decide)) ?_
  walk_at "z"
  refine ⟨c / 7, rfl, fun H2 s2 => ?_⟩
  walk_at "zt"
  rename_i l3 n3 H3 s3 f3
  walk_at "z"
  refine z_I (divW (by decide) (by decide)) ?_
  walk_at "z"
  refine z_I (by decide) ?_
  walk_at "z"
  obtain ⟨b, eb⟩ : ∃ b : Nat, c / 3 % 2 = (b : Int) := ⟨(c / 3 % 2).toNat, by omega⟩
  rw [eb]
  refine z_slL (SqL.of f3) (cut_to _ _) ?_
  walk_at "zn"
  rename_i l4 n4 H4 s4 f4
  walk_at "y"
  have s04 := s1.trans (s2.trans (s3.trans s4))
  have hm0 := Int.emod_nonneg (c / 7) (show (18 : Int) ≠ 0 by decide)
  have hm1 := Int.emod_lt_of_pos (c / 7) (show (0 : Int) < 18 by decide)
  obtain ⟨m, em⟩ : ∃ m : Nat, m = (c / 7 % 18).toNat := ⟨_, rfl⟩
  have hm : m < 18 := by omega
  rw [← em] at f4
  obtain ⟨R, hR, eR⟩ : ∃ R : List Str, (R = [] ∨ R = [badsL.getD m ""]) ∧ H4 l4 = some (.lst (R.map V.str)) := by
    refine ⟨[badsL.getD m ""].take b, ?_, by rw [List.map_take]; exact f4⟩
    cases b with
    | zero => exact .inl rfl
    | succ b => exact .inr (by simp)
  have hRl : R.length ≤ 1 := by rcases hR with rfl | rfl <;> simp
  rw [bads_count n hn]
  refine z_joinIf (R := fun σ' H' => σ' = [some (.ref L), some (.int c), some (.int a), some (.int ((a : Int) + 1 + (if n = 9 ∨ n = 17 then 1 else 0))), some (.ref l4), none] ∧ Same H4 H' ∧ ¬ ((s0.deeds = [] ∧ R = []) ∧ badsL.getD n "" = "")) (fun D' k rt => ?_) ?_
  · walk_at "z"
    refine z_addL (s04 _ _ hL) eR (sz1000 (by simp; omega)) ?_
    walk_at "zn"
    rename_i l5 n5 H5 s5 f5
    walk_at "zt"
    rename_i l6 n6 H6 s6 f6
    refine ⟨l5, l6, _, rfl, rfl, SqL.of (s6 _ _ f5), SqL.of f6, ?_⟩
    refine ⟨_, rfl, ?_⟩
    refine z_ite (fun c1 => ?_) (fun c1 => ?_)
    · walk_at "z"
      refine ⟨c, rfl, fun H7 s7 => ?_⟩
      rw [← en]
      walk_at "z"
      refine z_ite (fun c2 => ?_) (fun c2 => ?_)
      · walk_at "z"
        exact rt _ _ (q _ (s04.trans (s5.trans (s6.trans s7))))
      · walk_at "z"
        exact k _ _ ⟨rfl, s5.trans (s6.trans s7), fun w => c2 w.2⟩
    · walk_at "z"
      exact k _ _ ⟨rfl, s5.trans s6, fun w => c1 (by rw [w.1.1, w.1.2]; rfl)⟩
  rintro σ' H5 ⟨rfl, s5, hx⟩
  have s05 := s04.trans s5
  walk_at "z"
  refine z_slL (SqL.of (s05 _ _ hL)) (cut_to _ _) ?_
  walk_at "zn"
  rename_i l6 n6 H6 s6 f6
  walk_at "z"
  refine ⟨c, rfl, fun H7 s7 => ?_⟩
  rw [← en]
  walk_at "zt"
  rename_i l8 n8 H8 s8 f8
  refine z_addL (s8 _ _ (s7 _ _ f6)) f8 (sz1000 (by simp; omega)) ?_
  walk_at "zn"
  rename_i l9 n9 H9 s9 f9
  walk_at "z"
  have s59 := s6.trans (s7.trans (s8.trans s9))
  refine z_addL f9 (s59 _ _ (s5 _ _ eR)) (sz1000 (by simp; omega)) ?_
  walk_at "zn"
  rename_i l10 n10 H10 s10 f10
  walk_at "z"
  refine z_slL (SqL.of ((s59.trans s10) _ _ (s05 _ _ hL))) (cut_from _ _) ?_
  walk_at "zn"
  rename_i l11 n11 H11 s11 f11
  refine z_addL (s11 _ _ f10) f11 (sz1000 (by simp; omega)) ?_
  walk_at "zn"
  rename_i l12 n12 H12 s12 f12
  walk_at "z"
  obtain ⟨ls, els⟩ : ∃ ls : List Str, ls = (s0.deeds.map Deed.line).take a ++ (badsL.getD n "" :: (R ++ (s0.deeds.map Deed.line).drop a)) := ⟨_, rfl⟩
  have e12 : H12 l12 = some (.lst (ls.map V.str)) := by rw [f12, els]; simp [List.map_take, List.map_drop]
  have ha : a ≤ s0.deeds.length := by omega
  have hb : (ls.map (·.length)).sum + ls.length * ("\n" : Str).length ≤ 200 * 100 + 200 := by
    refine join_bound (n := 100) (m := 200) (by rw [els]; simp only [List.length_append, List.length_cons, List.length_take, List.length_drop, List.length_map]; omega) (fun y hy => ?_) (by decide +kernel)
    rw [els] at hy
    rcases List.mem_append.mp hy with hy | hy
    · obtain ⟨dd, hd, rfl⟩ := List.mem_map.mp (List.mem_of_mem_take hy)
      exact line_len (h0.deeds dd hd)
    rcases List.mem_cons.mp hy with rfl | hy
    · exact (bads_len n hn).1
    rcases List.mem_append.mp hy with hy | hy
    · rcases hR with rfl | rfl
      · cases hy
      · rw [List.mem_singleton.mp hy]; exact (bads_len m hm).1
    · obtain ⟨dd, hd, rfl⟩ := List.mem_map.mp (List.mem_of_mem_drop hy)
      exact line_len (h0.deeds dd hd)
  refine z_m1 ?_
  walk_at "z"
  refine ⟨⟨_, rfl⟩, ?_⟩
  walk_at "z"
  refine ⟨_, _, ls, rfl, rfl, .inl (SqL.of e12), Nat.le_trans hb (by decide), ?_⟩
  walk_at "z"
  obtain ⟨b1, b2, b3⟩ := spoilt_at h0 n0 hl ha hn hm hR hx (text := Txt.join "\n" ls) (by rw [els])
  refine ⟨_, _, rfl, b2, b3, Nat.le_trans str_len (Nat.le_trans hb (by decide)), ?_, fun H13 s13 => ?_⟩
  · have e : ((if n = 9 ∨ n = 17 then 1 else 0 : Nat) : Int) = (if n = 9 ∨ n = 17 then (1 : Int) else 0) := by split <;> rfl
    rw [e] at b1
    exact b1
  · walk_at "z"
    exact q _ ((s05.trans s59).trans (s10.trans (s11.trans (s12.trans s13))))
abbrev nShop_become : List Str := ["self", "kept"]
abbrev pShop_become : List Str := ["self", "kept"]
theorem scShop_become : FnScope nShop_become pShop_become (defScope sShop_become) := ⟨rfl, rfl, rfl, by decide +kernel, rfl, by decide +kernel, by decide +kernel⟩
theorem ok_Shop_become {P : Program} {w : World} {K : PySem.W.Frag} {mg : Str → Option Value} {base : Heap} (T : Tx w K mg) : Fk P w K mg base 1 (He.ma K (He.ga K "Shop") "become") pShop_become (spBecome (He.ga K "Shop")) := by
  refine Fk.mk' T.fShop_become scShop_become (fun _ _ _ _ _ _ us hl => match us, hl with | [_, _], _ => rfl) (by
  intro vs H Q E h
  repeat (first | (obtain ⟨h1, _⟩ := h; subst h1; rfl) | (obtain ⟨_, h⟩ := h))) (fun cdv A outer s H vs Q E hr h => ?_)
  have hu := hu_of hr
  have hu64 := hr.units
  refine ⟨_, (pss_one (ps_asg (pv 1) (k_pgt (n := 5) K rfl (pgs_cons (k_pgfld K (pv 0)) (pgs_cons (k_pgfld K (pv 0)) (pgs_cons (k_pgfld K (pv 0)) (pgs_cons (k_pgfld K (pv 0)) (pgs_cons (k_pgfld K (pv 0)) pgs_nil)))))))), ?_⟩
  try dsimp only [cxOf]
  obtain ⟨s0, t, dx, p, d, c, am, b, dd, lb, la, d', c', am', b', dd', rfl, hs, ht, q⟩ := h
  walk_at "z"
  refine z_gTup (SqT.of ht) rfl ?_
  have ob0 := hs
  walk_at "z"
  refine z_gFld ?_
  walk_at "z"
  refine ⟨s0, _, dx, _, rfl, ob0, T.cShop, T.aShop_standing, (show 8 < 1000 by decide), ?_⟩
  rw [ptS_standing]
  have ob1 := upd_same (H := H) (a := s0) (o := .ins (He.ga K "Shop") dx (fsShop p d' c am b dd lb la))
  have k0 : ∀ a, a ≠ s0 → H a = H a := fun a ha => rfl
  generalize hH1 : upd H s0 _ = H1 at ob1 ⊢
  walk_at "z"
  refine z_gFld ?_
  walk_at "z"
  refine ⟨s0, _, dx, _, rfl, ob1, T.cShop, T.aShop_coming, (show 8 < 1000 by decide), ?_⟩
  rw [ptS_coming]
  have ob2 := upd_same (H := H1) (a := s0) (o := .ins (He.ga K "Shop") dx (fsShop p d' c' am b dd lb la))
  have k1 : ∀ a, a ≠ s0 → H1 a = H a := fun a ha => (by rw [← hH1]; exact upd_ne ha : H1 a = H a).trans (k0 a ha)
  generalize hH2 : upd H1 s0 _ = H2 at ob2 ⊢
  walk_at "z"
  refine z_gFld ?_
  walk_at "z"
  refine ⟨s0, _, dx, _, rfl, ob2, T.cShop, T.aShop_amounts, (show 8 < 1000 by decide), ?_⟩
  rw [ptS_amounts]
  have ob3 := upd_same (H := H2) (a := s0) (o := .ins (He.ga K "Shop") dx (fsShop p d' c' am' b dd lb la))
  have k2 : ∀ a, a ≠ s0 → H2 a = H a := fun a ha => (by rw [← hH2]; exact upd_ne ha : H2 a = H1 a).trans (k1 a ha)
  generalize hH3 : upd H2 s0 _ = H3 at ob3 ⊢
  walk_at "z"
  refine z_gFld ?_
  walk_at "z"
  refine ⟨s0, _, dx, _, rfl, ob3, T.cShop, T.aShop_bundles, (show 8 < 1000 by decide), ?_⟩
  rw [ptS_bundles]
  have ob4 := upd_same (H := H3) (a := s0) (o := .ins (He.ga K "Shop") dx (fsShop p d' c' am' b' dd lb la))
  have k3 : ∀ a, a ≠ s0 → H3 a = H a := fun a ha => (by rw [← hH3]; exact upd_ne ha : H3 a = H2 a).trans (k2 a ha)
  generalize hH4 : upd H3 s0 _ = H4 at ob4 ⊢
  walk_at "z"
  refine z_gFld ?_
  walk_at "z"
  refine ⟨s0, _, dx, _, rfl, ob4, T.cShop, T.aShop_deeds_done, (show 8 < 1000 by decide), ?_⟩
  rw [ptS_deeds_done]
  have ob5 := upd_same (H := H4) (a := s0) (o := .ins (He.ga K "Shop") dx (fsShop p d' c' am' b' dd' lb la))
  have k4 : ∀ a, a ≠ s0 → H4 a = H a := fun a ha => (by rw [← hH4]; exact upd_ne ha : H4 a = H3 a).trans (k3 a ha)
  generalize hH5 : upd H4 s0 _ = H5 at ob5 ⊢
  walk_at "z"
  exact q H5 ob5 fun a ha => (by rw [← hH5]; exact upd_ne ha : H5 a = H4 a).trans (k4 a ha)
abbrev nShop_undo : List Str := ["self"]
abbrev pShop_undo : List Str := ["self"]
theorem scShop_undo : FnScope nShop_undo pShop_undo (defScope sShop_undo) := ⟨rfl, rfl, rfl, by decide +kernel, rfl, by decide +kernel, by decide +kernel⟩
theorem ok_Shop_undo {P : Program} {w : World} {K : PySem.W.Frag} {mg : Str → Option Value} {base : Heap} (T : Tx w K mg) : Fk P w K mg base 2 (He.ma K (He.ga K "Shop") "undo") pShop_undo (spUndo K) := by
  have GShop_become := ok_Shop_become (P := P) (w := w) (base := base) T
  have GShop_kept := ok_Shop_kept (P := P) (w := w) (base := base) T
  refine Fk.mk' T.fShop_undo scShop_undo (fun _ _ _ _ _ _ us hl => match us, hl with | [_], _ => rfl) (by
  intro vs H Q E h
  repeat (first | (obtain ⟨h1, _⟩ := h; subst h1; rfl) | (obtain ⟨_, h⟩ := h))) (fun cdv A outer s H vs Q E hr h => ?_)
  have hu := hu_of hr
  have hu64 := hr.units
  refine ⟨_, (pss_cons (ps_if (pt_cmpR (k_eqNil K hu) (k_fld K (pv 0) rfl) (pe_lst pa_nil) (nomark _)) (pss_one (ps_raise rfl takesX (pmk_own PySem.F.excBase_ValueError T.eNothingLeft.1 T.gNothingLeft T.eNothingLeft.2.1 (raises_own T.eNothingLeft.2.2.1 T.eNothingLeft.2.2.2) (by rfl)))) pss_nil)
  (pss_cons (ps_expr (k_bm K PySem.F.plainAttrs_list PySem.F.slot_list_append PySem.F.type_list_append mt_append (k_fld K (pv 0) rfl) (pa_cons (q_meth0 (pv 0) T.cShop T.mShop_kept GShop_kept (hr.mono (by omega)) passX) pa_nil)))
  (pss_one (ps_expr (q_meth (pv 0) T.cShop T.mShop_become GShop_become (hr.mono (by omega)) passX (pa_cons (k_bm0 K PySem.F.plainAttrs_list PySem.F.slot_list_pop PySem.F.type_list_pop mt_pop (k_fld K (pv 0) rfl)) pa_nil)))))), ?_⟩
  try dsimp only [cxOf]
  obtain ⟨x, rfl, h, hal, e, q⟩ := h
  walk_at "z"
  refine z_fldR h.S.ob T.cShop T.aShop_behind lkS_behind ?_
  walk_at "z"
  walk_at "zt"
  rename_i l1 nl1 H1 s1 f1
  have h1 := h.same s1
  have kl := h.S.kb.len
  walk_at "z"
  refine ⟨x.B.lb, l1, x.B.vs, rfl, rfl, SqL.of h1.S.hb, SqL.of f1, ?_⟩
  walk_at "z"
  refine z_ite (fun c => ?_) (fun c => ?_)
  · walk_at "z"
    exact e (List.eq_nil_of_length_eq_zero (by omega)) H1 s1
  obtain ⟨pst, st, ep⟩ : ∃ pst st, x.past = pst ++ [st] := by
    rcases List.eq_nil_or_concat x.past with z | ⟨L, b, z⟩
    · rw [z] at kl; exact absurd kl.1 c
    · exact ⟨L, b, by simpa using z⟩
  walk_at "z"
  refine z_fldR h1.S.ob T.cShop T.aShop_ahead lkS_ahead ?_
  refine z_tyL (SqL.of h1.S.ha) ?_
  walk_at "z"
  refine z_methR h1.S.ob noS_kept ?_
  walk_at "z"
  refine ⟨x.s, x.p, x.B, x.now, x.past, x.ahead, rfl, h1.S, fun H2 t q1 s2 ht hs2 nd2 fr2 nt => ?_⟩
  have h2 := h1.same s2
  have hS2 := h2.S
  rw [ep] at hS2
  have out : ∀ a ∈ q1.muts, a ∉ x.B.muts x.s := fun a ha z => by
    obtain ⟨o, e2, _⟩ := h1.S.there a z
    rw [fr2 a ha] at e2; cases e2
  obtain ⟨vs0, qs0, tl, ql, ev, etl, fin⟩ := hS2.back ht hs2 nd2 out
  have A := hS2.apt
  have wl := h.S.ka.len
  walk_at "z"
  refine z_app hS2.ha (by rw [wl.1]; exact szlt (by omega)) ?_
  have k3 := tup_stay (o := .lst (x.B.ws ++ [.ref t])) hS2.ha (fun _ z => by cases z)
  have ob3 : (upd H2 x.B.la (.lst (x.B.ws ++ [.ref t]))) x.s = _ := (upd_ne A.s2).trans hS2.ob
  have lb3 : (upd H2 x.B.la (.lst (x.B.ws ++ [.ref t]))) x.B.lb = some (.lst x.B.vs) := by rw [upd_ne A.b1]; exact hS2.hb
  have la3 : (upd H2 x.B.la (.lst (x.B.ws ++ [.ref t]))) x.B.la = some (.lst (x.B.ws ++ [.ref t])) := upd_same
  have o3 : ∀ a, a ≠ x.B.la → (upd H2 x.B.la (.lst (x.B.ws ++ [.ref t]))) a = H2 a := fun a ha => upd_ne ha
  generalize upd H2 x.B.la (.lst (x.B.ws ++ [.ref t])) = H3 at k3 ob3 lb3 la3 o3 ⊢
  walk_at "z"
  refine z_methR ob3 noS_become ?_
  walk_at "z"
  refine z_fldR ob3 T.cShop T.aShop_behind lkS_behind ?_
  rw [ev] at lb3
  walk_at "z"
  refine z_tyL (SqL.of lb3) ?_
  refine ⟨x.B.lb, vs0 ++ [.ref tl], .ref tl, rfl, rfl, lb3, by simp, ?_⟩
  rw [List.dropLast_concat]
  have nm : ∀ b, H3 b = some (.lst (vs0 ++ [.ref tl])) → True := fun _ _ => trivial
  have k4 := tup_stay (o := .lst vs0) lb3 (fun _ z => by cases z)
  have ob4 : (upd H3 x.B.lb (.lst vs0)) x.s = _ := (upd_ne A.s1).trans ob3
  have lb4 : (upd H3 x.B.lb (.lst vs0)) x.B.lb = some (.lst vs0) := upd_same
  have la4 : (upd H3 x.B.lb (.lst vs0)) x.B.la = some (.lst (x.B.ws ++ [.ref t])) := (upd_ne A.b1.symm).trans la3
  have o4 : ∀ a, a ≠ x.B.lb → (upd H3 x.B.lb (.lst vs0)) a = H3 a := fun a ha => upd_ne ha
  generalize upd H3 x.B.lb (.lst vs0) = H4 at k4 ob4 lb4 la4 o4 ⊢
  walk_at "z"
  refine ⟨x.s, tl, x.B.dx, _, _, _, _, _, _, _, _, _, _, _, _, _, rfl, ob4, k4 _ _ (k3 _ _ etl), fun H5 ob5 o5 => ?_⟩
  have k5 : ∀ a xs, H2 a = some (.tup xs) → H5 a = some (.tup xs) := fun a xs e1 => by
    rw [o5 a (fun z => by rw [z, hS2.ob] at e1; cases e1)]
    exact k4 _ _ (k3 _ _ e1)
  have oth : ∀ a, a ≠ x.s → a ≠ x.B.la → a ≠ x.B.lb → H5 a = H2 a := fun a n1 n2 n3 => by rw [o5 a n1, o4 a n3, o3 a n2]
  obtain ⟨hS5, m5⟩ := fin H5 k5 (fun a n1 n2 n3 o e1 => by rw [oth a n1 n2 n3]; exact e1) (by rw [o5 _ (Ne.symm A.s2)]; exact la4) (by rw [o5 _ (Ne.symm A.s1)]; exact lb4) ob5
  have s12 := s1.trans s2
  have inM : ∀ a, (a = x.s ∨ a = x.B.la ∨ a = x.B.lb) → a ∈ x.B.muts x.s := fun a ha => by
    rcases ha with rfl | rfl | rfl <;> simp [SB.muts]
  have kp5 : Keep (fun b => b ∈ x.B.muts x.s) H2 H5 := fun b o e1 nb => by
    rw [oth b (fun z => nb (inM b (.inl z))) (fun z => nb (inM b (.inr (.inl z)))) (fun z => nb (inM b (.inr (.inr z))))]
    exact e1
  have lv5 : Live H2 H5 := fun b z => by
    by_cases n1 : b = x.s
    · rw [n1, ob5] at z; cases z
    · by_cases n2 : b = x.B.la
      · rw [o5 b n1, n2, la4] at z; cases z
      · by_cases n3 : b = x.B.lb
        · rw [o5 b n1, n3, lb4] at z; cases z
        · rw [← oth b n1 n2 n3]; exact z
  have h2' : x.at K H2 := h2
  have hF5 : FacesAt (He.ga K "Faces") H5 x.p x.A x.D x.ps := h2'.F.keep fun b o hb e1 => kp5 b o e1 fun z => h2'.ap b z hb
  have fr0 : ∀ b ∈ q1.muts, H b = none := fun b hb => s1.free (fr2 b hb)
  have m5' : ∀ b ∈ SB.muts x.s { x.B with q := ql, qs := qs0, vs := vs0, rs := x.B.rs ++ [q1], ws := x.B.ws ++ [.ref t] }, b ∈ x.B.muts x.s ∨ H b = none := fun b hb => (m5 b hb).imp id (fr0 b)
  have hpl := h.pl
  have hokp : ∀ z, z = st ∨ z ∈ pst ∨ z ∈ x.ahead ++ [x.now] → StOk x.ps x.k z := fun z hz => by
    rcases hz with hz | hz | hz
    · exact h.ok z (.inr (.inl (by rw [ep, hz]; simp)))
    · exact h.ok z (.inr (.inl (by rw [ep]; exact List.mem_append_left _ hz)))
    · rcases List.mem_append.mp hz with hz | hz
      · exact h.ok z (.inr (.inr hz))
      · exact h.ok z (.inl (by simpa using hz))
  exact q pst st ep H5 ⟨x.p, x.A, x.D, x.ps, x.bs, x.s, { x.B with q := ql, qs := qs0, vs := vs0, rs := x.B.rs ++ [q1], ws := x.B.ws ++ [.ref t] }, st, pst, x.ahead ++ [x.now], x.k⟩
    ⟨hF5, h.base, hS5, fun a ha => (m5' a ha).elim (h.ap a) h.F.nd, hokp, h.bl, h.kl, by rw [ep, List.length_append] at hpl; dsimp only; omega⟩
    ⟨rfl, rfl, rfl, ⟨[], (List.append_nil _).symm⟩, (s12.keep).trans (kp5.mono fun b hb => .inr hb), s12.live.trans lv5, fun _ hb => .inl hb, m5'⟩ rfl rfl rfl rfl rfl
abbrev nShop_rods : List Str := ["self"]
abbrev pShop_rods : List Str := ["self"]
theorem scShop_rods : FnScope nShop_rods pShop_rods (defScope sShop_rods) := ⟨rfl, rfl, rfl, by decide +kernel, rfl, by decide +kernel, by decide +kernel⟩
theorem ok_Shop_rods {P : Program} {w : World} {K : PySem.W.Frag} {mg : Str → Option Value} {base : Heap} (T : Tx w K mg) : Fk P w K mg base 1 (He.ma K (He.ga K "Shop") "rods") pShop_rods (spRods K) := by
  refine Fk.mk' T.fShop_rods scShop_rods (fun _ _ _ _ _ _ us hl => match us, hl with | [_], _ => rfl) (by
  intro vs H Q E h
  repeat (first | (obtain ⟨h1, _⟩ := h; subst h1; rfl) | (obtain ⟨_, h⟩ := h))) (fun cdv A outer s H vs Q E hr h => ?_)
  have hu := hu_of hr
  have hu64 := hr.units
  refine ⟨_, (pss_one (ps_ret (pe_callB (call_sortedDI rfl) (by rfl) T.usorted (by decide +kernel) (pa_cons (k_fld K (pv 0) rfl) pa_nil)))), ?_⟩
  try dsimp only [cxOf]
  obtain ⟨x, rfl, h, h64, q⟩ := h
  have hst := h.ok _ (.inl rfl)
  obtain ⟨kvs, hkv, hrs⟩ := h.S.cur.d
  walk_at "z"
  refine z_fldR h.S.ob T.cShop T.aShop_standing lkS_standing ?_
  walk_at "z"
  refine ⟨_, kvs, x.now.rods.map (·.n), rfl, .inl hkv, hrs.keys, by rw [List.length_map]; exact h64, fun ys p hp hsorted hpn => ?_⟩
  obtain rfl := sorted_same hp hsorted hst.up
  have s1 : Same H (upd H p (.lst ((x.now.rods.map (·.n)).map V.int))) := Same.new hpn
  exact q _ p s1 hpn upd_same
def spStore (K : PySem.W.Frag) : Sp := fun vs H Q _ => ∃ x : Ws, vs = [.ref x.s] ∧ x.at K H ∧ Q (.ref x.p) H
abbrev nShop_store : List Str := ["self"]
abbrev pShop_store : List Str := ["self"]
theorem scShop_store : FnScope nShop_store pShop_store (defScope sShop_store) := ⟨rfl, rfl, rfl, by decide +kernel, rfl, by decide +kernel, by decide +kernel⟩
theorem ok_Shop_store {P : Program} {w : World} {K : PySem.W.Frag} {mg : Str → Option Value} {base : Heap} (T : Tx w K mg) : Fk P w K mg base 1 (He.ma K (He.ga K "Shop") "store") pShop_store (spStore K) := by
  refine Fk.mk' T.fShop_store scShop_store (fun _ _ _ _ _ _ us hl => match us, hl with | [_], _ => rfl) (by
  intro vs H Q E h
  repeat (first | (obtain ⟨h1, _⟩ := h; subst h1; rfl) | (obtain ⟨_, h⟩ := h))) (fun cdv A outer s H vs Q E hr h => ?_)
  have hu := hu_of hr
  have hu64 := hr.units
  refine ⟨_, (pss_one (ps_ret (k_fld K (pv 0) rfl))), ?_⟩
  try dsimp only [cxOf]
  obtain ⟨x, rfl, h, q⟩ := h
  walk_at "z"
  refine z_fldR h.S.ob T.cShop T.aShop_faces lkS_faces ?_
  exact q
def spFCell (C N B O : Addr) : Sp := fun vs H Q E => ∃ p A D ps, ∃ f d x y : Int, vs = [.ref p, .int f, .int d, .int x, .int y] ∧ FacesAt C H p A D ps ∧ (¬ (0 ≤ f ∧ f < ps.length) → E (.ref N) none H) ∧
  ∀ P, IsF ps f P → (¬ ((P.depth : Nat) ≤ d ∧ d ≤ 20) → E (.ref B) none H) ∧ (((P.depth : Nat) ≤ d ∧ d ≤ 20) →
    (¬ ((0 ≤ x ∧ x < 2 ^ d.toNat) ∧ 0 ≤ y ∧ y < 2 ^ d.toNat) → E (.ref O) none H) ∧ (((0 ≤ x ∧ x < 2 ^ d.toNat) ∧ 0 ≤ y ∧ y < 2 ^ d.toNat) → Q (.int (P.cell d.toNat x y)) H))
abbrev nFaces_cell : List Str := ["self", "face", "depth", "x", "y", "size"]
abbrev pFaces_cell : List Str := ["self", "face", "depth", "x", "y"]
theorem scFaces_cell : FnScope nFaces_cell pFaces_cell (defScope sFaces_cell) := ⟨rfl, rfl, rfl, by decide +kernel, rfl, by decide +kernel, by decide +kernel⟩
theorem ok_Faces_cell {P : Program} {w : World} {K : PySem.W.Frag} {mg : Str → Option Value} {base : Heap} (T : Tx w K mg) : Fk P w K mg base 3 (He.ma K (He.ga K "Faces") "cell") pFaces_cell (spFCell (He.ga K "Faces") (He.ga K "NoFace") (He.ga K "BadDepth") (He.ga K "NoCell")) := by
  have GFaces_need_depth := ok_Faces_need_depth (P := P) (w := w) (base := base) T
  refine Fk.mk' T.fFaces_cell scFaces_cell (fun _ _ _ _ _ _ us hl => match us, hl with | [_, _, _, _, _], _ => rfl) (by
  intro vs H Q E h
  repeat (first | (obtain ⟨h1, _⟩ := h; subst h1; rfl) | (obtain ⟨_, h⟩ := h))) (fun cdv A outer s H vs Q E hr h => ?_)
  have hu := hu_of hr
  have hu64 := hr.units
  refine ⟨_, (pss_cons (ps_expr (q_meth (pv 0) T.cFaces T.mFaces_need_depth GFaces_need_depth (hr.mono (by omega)) passX (pa_cons (pv 1) (pa_cons (pv 2) pa_nil))))
  (pss_cons (ps_set (i := 5) scFaces_cell.nd rfl (Or.inl rfl) (pe_op op_shl pe_int (pv 2)))
  (pss_cons (ps_if (PW.pt (pw_or (pt_cmpR op_lt (pv 3) pe_int (nomark _)) (pw_or (pt_cmpR op_ge (pv 3) (pv 5) (nomark _)) (pw_or (pt_cmpR op_lt (pv 4) pe_int (nomark _)) (pw_or1 (pt_cmpR op_ge (pv 4) (pv 5) (nomark _))))))) (pss_one (ps_raise rfl takesX (pmk_own PySem.F.excBase_ValueError T.eNoCell.1 T.gNoCell T.eNoCell.2.1 (raises_own T.eNoCell.2.2.1 T.eNoCell.2.2.2) (by rfl)))) pss_nil)
  (pss_cons (ps_while (passes_of rfl) (pt_cmpR op_gt (k_ix K (k_fld K (pv 0) rfl) (pv 1) (fun _ _ => rfl)) pe_int (nomark _)) (pss_cons (ps_set (i := 5) scFaces_cell.nd rfl (Or.inl rfl) (pe_op op_fdivW (pv 5) pe_int))
  (pss_cons (ps_set (i := 1) scFaces_cell.nd rfl (Or.inl rfl) (k_ix K (k_ix K (k_fld K (pv 0) rfl) (pv 1) (fun _ _ => rfl)) (pe_op (k_add K) (pe_op op_mulU pe_int (pe_op op_fdivW (pv 4) (pv 5))) (pe_op op_fdivW (pv 3) (pv 5))) (fun _ _ => rfl)))
  (pss_cons (ps_set (i := 3) scFaces_cell.nd rfl (Or.inl rfl) (pe_op op_mod (pv 3) (pv 5)))
  (pss_one (ps_set (i := 4) scFaces_cell.nd rfl (Or.inl rfl) (pe_op op_mod (pv 4) (pv 5))))))))
  (pss_one (ps_ret (k_ix K (k_ix K (k_fld K (pv 0) rfl) (pv 1) (fun _ _ => rfl)) pe_int (fun _ _ => rfl)))))))), ?_⟩
  try dsimp only [cxOf]
  obtain ⟨p, A, D, ps, f, d, x, y, rfl, hF, e, q⟩ := h
  obtain ⟨dx, ob⟩ := hF.ob
  walk_at "z"
  refine z_methR ob noFaces_need_depth ?_
  walk_at "z"
  refine ⟨p, A, D, ps, f, d, rfl, hF, e, fun P hP => ⟨(q P hP).1, fun hd => ?_⟩⟩
  obtain ⟨q1, q2⟩ := (q P hP).2 hd
  walk_at "z"
  refine z_I ⟨by omega, by omega, by decide⟩ ?_
  walk_at "z"
  have hsz : (1 : Int) * 2 ^ d.toNat = 2 ^ d.toNat := Int.one_mul _
  rw [hsz]
  refine z_ite (fun c1 => ?_) (fun c1 => ?_)
  · walk_at "z"
    exact q1 (by omega)
  walk_at "z"
  refine z_ite (fun c2 => ?_) (fun c2 => ?_)
  · walk_at "z"
    exact q1 (by omega)
  walk_at "z"
  refine z_ite (fun c3 => ?_) (fun c3 => ?_)
  · walk_at "z"
    exact q1 (by omega)
  walk_at "z"
  refine z_ite (fun c4 => ?_) (fun c4 => ?_)
  · walk_at "z"
    exact q1 (by omega)
  walk_at "z"
  have qq := q2 (by omega)
  refine z_while (fun m σ H' => H' = H ∧ ∃ (f' x' y' : Int) (s : Nat) (P' : Pic), σ = [some (.ref p), some (.int f'), some (.int d), some (.int x'), some (.int y'), some (.int (2 ^ s))] ∧ IsF ps f' P' ∧ P'.depth = m ∧ P'.depth ≤ s ∧ s ≤ 20 ∧ ((0 ≤ x' ∧ x' < 2 ^ s) ∧ 0 ≤ y' ∧ y' < 2 ^ s) ∧ P'.cell s x' y' = P.cell d.toNat x y) P.depth
    ⟨rfl, f, x, y, d.toNat, P, rfl, hP, rfl, by omega, by omega, by omega, rfl⟩ ?_
  rintro m σ H' ⟨rfl, f', x', y', s, P', rfl, hP', rfl, hs, hs20, ⟨⟨x0, x1⟩, y0, y1⟩, hcell⟩
  walk_at "z"
  refine z_fldR ob T.cFaces T.aFaces_depths lkFaces_depths ?_
  walk_at "z"
  refine z_ixL (SqL.of hF.depths) (FacesAt.depthAt hP') ?_
  walk_at "z"
  obtain ⟨ns, hn, n2, n3⟩ := hF.nodes
  have hlt : f'.toNat < ns.length := by have := hP'.1; have := hP'.lt; omega
  obtain ⟨da, ha⟩ := n3 f'.toNat _ _ (List.getElem?_eq_getElem hlt) hP'.2
  have hnd : atI (ns.map V.ref) f' = some (.ref (ns[f'.toNat])) := atI_of (n := f'.toNat) (by rw [List.getElem?_map, List.getElem?_eq_getElem hlt]; rfl) (by have := hP'.1; omega)
  generalize ns[f'.toNat] = nd at da ha hnd ⊢
  refine z_ite (fun c5 => ?_) (fun c5 => ?_)
  · refine ⟨_, fun _ _ h => h, ?_⟩
    cases P' with
    | p c => simp [Pic.depth] at c5
    | q a b c g =>
    cases s with
    | zero => simp only [Pic.depth] at hs; omega
    | succ s =>
    have hpin := hF.inv.cl _ hP'.mem
    have ma := hpin a (by simp [Pic.parts])
    have mb := hpin b (by simp [Pic.parts])
    have mc := hpin c (by simp [Pic.parts])
    have mg := hpin g (by simp [Pic.parts])
    have e2 : (2 : Int) ^ (s + 1) = 2 * 2 ^ s := by rw [Int.pow_succ]; omega
    have hh := pow2 s
    have hl := pow2_le (s := s) (n := 20) (by omega)
    have hdv : (2 : Int) ^ (s + 1) / 2 = 2 ^ s := by rw [e2]; omega
    rw [e2] at x1 y1
    simp only [Pic.cell, Nat.add_sub_cancel] at hcell
    simp only [Pic.depth] at hs
    walk_at "z"
    refine z_I ⟨by decide, by decide⟩ ?_
    walk_at "z"
    rw [hdv]
    refine z_fldR ob T.cFaces T.aFaces_nodes lkFaces_nodes ?_
    walk_at "z"
    refine z_ixL (SqL.of hn) hnd ?_
    walk_at "z"
    refine z_I (divW hh (by omega)) ?_
    walk_at "z"
    have fin : ∀ (i : Int) (R : Pic), R ∈ ps → R.depth ≤ s → 2 * (y' / 2 ^ s) + x' / 2 ^ s = i → atI ((nodeOf ps (.q a b c g)).map V.int) i = some (.int (ix ps R : Nat)) → R.depth < (Pic.q a b c g).depth → R.cell s (x' % 2 ^ s) (y' % 2 ^ s) = P.cell d.toNat x y → (2 * (y' / 2 ^ s)).natAbs < 100 →
      True := fun _ _ _ _ _ _ _ _ _ => trivial
    rcases half_of hh x0 x1 with ⟨x2, x3, x4⟩ | ⟨x2, x3, x4⟩ <;> rcases half_of hh y0 y1 with ⟨y2, y3, y4⟩ | ⟨y2, y3, y4⟩
    all_goals
      rw [y2, x2] at hcell
      simp only [y2]
      refine z_mulI (mulS (by decide) (by decide)) ?_
      walk_at "z"
      refine z_I (divW hh (by omega)) ?_
      walk_at "z"
      simp only [x2]
      refine z_ixT (SqT.of ha) (by rfl) ?_
      walk_at "z"
      refine z_I hh ?_
      walk_at "z"
      refine z_I hh ?_
      walk_at "z"
      rw [x3, y3] at hcell ⊢
    · refine ⟨_, ?_, rfl, _, _, _, s, a, rfl, IsF.ix ma, rfl, by omega, by omega, by omega, by simpa using hcell⟩
      simp only [Pic.depth]; omega
    · refine ⟨_, ?_, rfl, _, _, _, s, c, rfl, IsF.ix mc, rfl, by omega, by omega, by omega, by simpa using hcell⟩
      simp only [Pic.depth]; omega
    · refine ⟨_, ?_, rfl, _, _, _, s, b, rfl, IsF.ix mb, rfl, by omega, by omega, by omega, by simpa using hcell⟩
      simp only [Pic.depth]; omega
    · refine ⟨_, ?_, rfl, _, _, _, s, g, rfl, IsF.ix mg, rfl, by omega, by omega, by omega, by simpa using hcell⟩
      simp only [Pic.depth]; omega
  · obtain ⟨c, rfl⟩ := depth_zero (P := P') (by omega)
    walk_at "z"
    refine z_fldR ob T.cFaces T.aFaces_nodes lkFaces_nodes ?_
    walk_at "z"
    refine z_ixL (SqL.of hn) hnd ?_
    walk_at "z"
    refine z_ixT (SqT.of ha) (by rfl) ?_
    have e9 : c = P.cell d.toNat x y := hcell
    rw [e9]
    exact qq
def spNewSt (K : PySem.W.Frag) : Sp := fun vs H Q _ => ∃ (x : Ws) (c : Int), vs = [.ref x.s, .str (pageT x.now.deeds), .int c] ∧ x.at K H ∧ Hist x.ps x.now ∧ x.now.deeds.length ≤ 100 ∧ x.now.rods.length < 64 ∧ 0 ≤ c ∧ (∃ n : Nat, c.natAbs < 2 ^ n ∧ n ≤ 2000000) ∧ ∀ H', Same H H' → Q (.bl true) H'
abbrev n_law_in_new_store : List Str := ["_law_shop", "_law_text", "_law_cell_here", "_law_fresh", "_law_other", "_law_number", "_law_face", "_law_thickness", "_law_length", "_law_told", "_law_k", "_law_x", "_law_y"]
abbrev p_law_in_new_store : List Str := ["_law_shop", "_law_text", "_law_cell_here"]
theorem sc_law_in_new_store : FnScope n_law_in_new_store p_law_in_new_store (defScope s_law_in_new_store) := ⟨rfl, rfl, rfl, by decide +kernel, rfl, by decide +kernel, by decide +kernel⟩
theorem ok__law_in_new_store {P : Program} {w : World} {K : PySem.W.Frag} {mg : Str → Option Value} {base : Heap} (T : Tx w K mg) : Fk P w K mg base 20 (He.ga K "_law_in_new_store") p_law_in_new_store (spNewSt K) := by
  have GFaces___init__ := ok_Faces___init__ (P := P) (w := w) (base := base) T
  have GFaces_four := ok_Faces_four (P := P) (w := w) (base := base) T
  have Gread_page := ok_read_page (P := P) (w := w) (base := base) T
  have GShop_rods := ok_Shop_rods (P := P) (w := w) (base := base) T
  have GFaces_plain := ok_Faces_plain (P := P) (w := w) (base := base) T
  have GShop_rod := ok_Shop_rod (P := P) (w := w) (base := base) T
  have GFaces_depth := ok_Faces_depth (P := P) (w := w) (base := base) T
  have G_law_like := ok__law_like (P := P) (w := w) (base := base) T 8
  have GShop_store := ok_Shop_store (P := P) (w := w) (base := base) T
  have GShop_glass := ok_Shop_glass (P := P) (w := w) (base := base) T
  have GFaces_counts := ok_Faces_counts (P := P) (w := w) (base := base) T
  have GFaces_cell := ok_Faces_cell (P := P) (w := w) (base := base) T
  refine Fk.mk' T.f_law_in_new_store sc_law_in_new_store (fun _ _ _ _ _ _ us hl => match us, hl with | [_, _, _], _ => rfl) (by
  intro vs H Q E h
  repeat (first | (obtain ⟨h1, _⟩ := h; subst h1; rfl) | (obtain ⟨_, h⟩ := h))) (fun cdv A outer s H vs Q E hr h => ?_)
  have hu := hu_of hr
  have hu64 := hr.units
  refine ⟨_, (pss_cons (ps_set (i := 3) sc_law_in_new_store.nd rfl (Or.inl rfl) (q_make0 T.kFaces GFaces___init__ (hr.mono (by omega)) T.gFaces passX))
  (pss_cons (ps_expr (q_meth (pv 3) T.cFaces T.mFaces_four GFaces_four (hr.mono (by omega)) passX (pa_cons (q_meth (pv 3) T.cFaces T.mFaces_plain GFaces_plain (hr.mono (by omega)) passX (pa_cons pe_int pa_nil)) (pa_cons (q_meth (pv 3) T.cFaces T.mFaces_plain GFaces_plain (hr.mono (by omega)) passX (pa_cons pe_int pa_nil)) (pa_cons (q_meth (pv 3) T.cFaces T.mFaces_plain GFaces_plain (hr.mono (by omega)) passX (pa_cons pe_int pa_nil)) (pa_cons (q_meth (pv 3) T.cFaces T.mFaces_plain GFaces_plain (hr.mono (by omega)) passX (pa_cons pe_int pa_nil)) pa_nil))))))
  (pss_cons (ps_set (i := 4) sc_law_in_new_store.nd rfl (Or.inl rfl) (q_call Gread_page (hr.mono (by omega)) T.gread_page passX (pa_cons (pv 3) (pa_cons (pv 1) pa_nil))))
  (pss_cons (ps_if (PW.pt (pw_or (pt_not (pt_val (q_call G_law_like (hr.mono (by omega)) T.g_law_like passX (pa_cons (q_meth0 (pv 4) T.cShop T.mShop_rods GShop_rods (hr.mono (by omega)) passX) (pa_cons (q_meth0 (pv 0) T.cShop T.mShop_rods GShop_rods (hr.mono (by omega)) passX) pa_nil))))) (pw_or1 (pt_not (pt_val (q_call G_law_like (hr.mono (by omega)) T.g_law_like passX (pa_cons (q_meth0 (pv 4) T.cShop T.mShop_glass GShop_glass (hr.mono (by omega)) passX) (pa_cons (q_meth0 (pv 0) T.cShop T.mShop_glass GShop_glass (hr.mono (by omega)) passX) pa_nil)))))))) (pss_one (ps_ret pe_bl)) pss_nil)
  (pss_cons (ps_for (passes_of rfl) rfl (k_pil K (q_meth0 (pv 0) T.cShop T.mShop_rods GShop_rods (hr.mono (by omega)) passX)) (pg_name (i := 5) sc_law_in_new_store.nd rfl (Or.inl rfl)) (pss_cons (ps_asg (q_meth (pv 0) T.cShop T.mShop_rod GShop_rod (hr.mono (by omega)) passX (pa_cons (pv 5) pa_nil)) (k_pgt (n := 3) K rfl (pgs_cons (pg_name (i := 6) sc_law_in_new_store.nd rfl (Or.inl rfl)) (pgs_cons (pg_name (i := 7) sc_law_in_new_store.nd rfl (Or.inl rfl)) (pgs_cons (pg_name (i := 8) sc_law_in_new_store.nd rfl (Or.inl rfl)) pgs_nil)))))
  (pss_cons (ps_set (i := 9) sc_law_in_new_store.nd rfl (Or.inl rfl) (q_meth (pv 4) T.cShop T.mShop_rod GShop_rod (hr.mono (by omega)) passX (pa_cons (pv 5) pa_nil)))
  (pss_cons (ps_if (PW.pt (pw_or (pt_not (pt_val (q_call G_law_like (hr.mono (by omega)) T.g_law_like passX (pa_cons (pe_slice (k_slt K) (pv 9) (po_some pe_int) po_none) (pa_cons (pe_tup (pa_cons (pv 7) (pa_cons (pv 8) pa_nil))) pa_nil))))) (pw_or1 (pt_cmpR (k_ne K hu64) (q_meth (pv 3) T.cFaces T.mFaces_counts GFaces_counts (hr.mono (by omega)) passX (pa_cons (k_ix K (pv 9) pe_int (fun _ _ => rfl)) (pa_cons pe_int pa_nil))) (q_meth (q_meth0 (pv 0) T.cShop T.mShop_store GShop_store (hr.mono (by omega)) passX) T.cFaces T.mFaces_counts GFaces_counts (hr.mono (by omega)) passX (pa_cons (pv 6) (pa_cons pe_int pa_nil))) (nomark _))))) (pss_one (ps_ret pe_bl)) pss_nil)
  (pss_one (ps_for (passes_of rfl) rfl (pi_range1 (by rfl) T.urange (pa_cons pe_int pa_nil)) (pg_name (i := 10) sc_law_in_new_store.nd rfl (Or.inl rfl)) (pss_cons (ps_par (i := 11) (j := 12) (by rfl) sc_law_in_new_store.nd rfl rfl (by decide) rfl rfl (pa_cons (pe_op op_mod (pe_op op_mulU (pe_op op_fdivW (pv 2) (pe_op (k_add K) pe_int (pv 10))) pe_int) pe_int) (pa_cons (pe_op op_mod (pe_op op_mulU (pe_op (k_add K) (pv 2) (pv 10)) pe_int) pe_int) pa_nil)) (by rfl))
  (pss_one (ps_if (pt_cmpR (k_ne K hu64) (q_meth (pv 3) T.cFaces T.mFaces_cell GFaces_cell (hr.mono (by omega)) passX (pa_cons (k_ix K (pv 9) pe_int (fun _ _ => rfl)) (pa_cons pe_int (pa_cons (pv 11) (pa_cons (pv 12) pa_nil))))) (q_meth (q_meth0 (pv 0) T.cShop T.mShop_store GShop_store (hr.mono (by omega)) passX) T.cFaces T.mFaces_cell GFaces_cell (hr.mono (by omega)) passX (pa_cons (pv 6) (pa_cons pe_int (pa_cons (pv 11) (pa_cons (pv 12) pa_nil))))) (nomark _)) (pss_one (ps_ret pe_bl)) pss_nil)))))))))
  (pss_cons (ps_set (i := 6) sc_law_in_new_store.nd rfl (Or.inl rfl) (q_meth (q_meth0 (pv 4) T.cShop T.mShop_store GShop_store (hr.mono (by omega)) passX) T.cFaces T.mFaces_four GFaces_four (hr.mono (by omega)) passX (pa_cons (q_meth (pv 3) T.cFaces T.mFaces_plain GFaces_plain (hr.mono (by omega)) passX (pa_cons pe_int pa_nil)) (pa_cons (q_meth (pv 3) T.cFaces T.mFaces_plain GFaces_plain (hr.mono (by omega)) passX (pa_cons pe_int pa_nil)) (pa_cons (q_meth (pv 3) T.cFaces T.mFaces_plain GFaces_plain (hr.mono (by omega)) passX (pa_cons pe_int pa_nil)) (pa_cons (q_meth (pv 3) T.cFaces T.mFaces_plain GFaces_plain (hr.mono (by omega)) passX (pa_cons (pe_op (k_add K) pe_int (pe_op op_mod (pv 2) pe_int)) pa_nil)) pa_nil))))))
  (pss_one (ps_ret (pe_cmpR (k_eq K hu64) (q_meth (pv 3) T.cFaces T.mFaces_depth GFaces_depth (hr.mono (by omega)) passX (pa_cons (pv 6) pa_nil)) pe_int (nomark _)))))))))), ?_⟩
  try dsimp only [cxOf]
  obtain ⟨x, c, rfl, hx, hist, hdl, hrl, c0, ⟨nb, hnb, hnb2⟩, q⟩ := h
  walk_at "z"
  refine z_mkFaces fun H1 p A D1 s1 F1 hD1 => ?_
  obtain ⟨ps1, eps1⟩ : ∃ z : List Pic, z = [] := ⟨_, rfl⟩
  have len1 : ps1.length ≤ 0 := by rw [eps1]; exact Nat.le_refl _
  rw [← eps1] at F1
  clear eps1
  walk_at "z"
  obtain ⟨dx0, ob0⟩ := F1.ob
  refine z_methR ob0 noFaces_four ?_
  walk_at "z"
  obtain ⟨dx1, ob1⟩ := F1.ob
  refine z_methR ob1 noFaces_plain ?_
  walk_at "z"
  refine ⟨p, A, D1, ps1, 9, rfl, F1, by omega, fun no => absurd ⟨by decide, by decide⟩ no, fun _ H2 D2 kp2 F2 u2 f2 => ?_⟩
  have len2 := addP_len ps1 (.p (9))
  have mem2 := IsF.ix (addP_mem ps1 (.p (9)))
  obtain ⟨r2, e2⟩ := addP_ext ps1 (.p (9))
  rw [e2] at F2 len2 mem2 ⊢
  obtain ⟨ps2, eps2⟩ : ∃ z, z = ps1 ++ r2 := ⟨_, rfl⟩
  rw [← eps2] at F2 len2 mem2 ⊢
  have up2 : ∀ {f : Int} {R : Pic}, IsF ps1 f R → IsF ps2 f R := fun h => by rw [eps2]; exact h.app
  walk_at "z"
  obtain ⟨dx2, ob2⟩ := F2.ob
  refine z_methR ob2 noFaces_plain ?_
  walk_at "z"
  refine ⟨p, A, D2, ps2, 3, rfl, F2, by omega, fun no => absurd ⟨by decide, by decide⟩ no, fun _ H3 D3 kp3 F3 u3 f3 => ?_⟩
  have len3 := addP_len ps2 (.p (3))
  have mem3 := IsF.ix (addP_mem ps2 (.p (3)))
  obtain ⟨r3, e3⟩ := addP_ext ps2 (.p (3))
  rw [e3] at F3 len3 mem3 ⊢
  obtain ⟨ps3, eps3⟩ : ∃ z, z = ps2 ++ r3 := ⟨_, rfl⟩
  rw [← eps3] at F3 len3 mem3 ⊢
  have up3 : ∀ {f : Int} {R : Pic}, IsF ps2 f R → IsF ps3 f R := fun h => by rw [eps3]; exact h.app
  walk_at "z"
  obtain ⟨dx3, ob3⟩ := F3.ob
  refine z_methR ob3 noFaces_plain ?_
  walk_at "z"
  refine ⟨p, A, D3, ps3, 9, rfl, F3, by omega, fun no => absurd ⟨by decide, by decide⟩ no, fun _ H4 D4 kp4 F4 u4 f4 => ?_⟩
  have len4 := addP_len ps3 (.p (9))
  have mem4 := IsF.ix (addP_mem ps3 (.p (9)))
  obtain ⟨r4, e4⟩ := addP_ext ps3 (.p (9))
  rw [e4] at F4 len4 mem4 ⊢
  obtain ⟨ps4, eps4⟩ : ∃ z, z = ps3 ++ r4 := ⟨_, rfl⟩
  rw [← eps4] at F4 len4 mem4 ⊢
  have up4 : ∀ {f : Int} {R : Pic}, IsF ps3 f R → IsF ps4 f R := fun h => by rw [eps4]; exact h.app
  walk_at "z"
  obtain ⟨dx4, ob4⟩ := F4.ob
  refine z_methR ob4 noFaces_plain ?_
  walk_at "z"
  refine ⟨p, A, D4, ps4, 7, rfl, F4, by omega, fun no => absurd ⟨by decide, by decide⟩ no, fun _ H5 D5 kp5 F5 u5 f5 => ?_⟩
  have len5 := addP_len ps4 (.p (7))
  have mem5 := IsF.ix (addP_mem ps4 (.p (7)))
  obtain ⟨r5, e5⟩ := addP_ext ps4 (.p (7))
  rw [e5] at F5 len5 mem5 ⊢
  obtain ⟨ps5, eps5⟩ : ∃ z, z = ps4 ++ r5 := ⟨_, rfl⟩
  rw [← eps5] at F5 len5 mem5 ⊢
  have up5 : ∀ {f : Int} {R : Pic}, IsF ps4 f R → IsF ps5 f R := fun h => by rw [eps5]; exact h.app
  walk_at "z"
  have i1 := (up5 (up4 (up3 mem2)))
  have i2 := (up5 (up4 mem3))
  have i3 := (up5 mem4)
  have i4 := mem5
  refine ⟨p, A, D5, ps5, _, _, _, _, rfl, F5, by omega, fun no => absurd ⟨⟨i1.1, i1.lt⟩, ⟨i2.1, i2.lt⟩, ⟨i3.1, i3.lt⟩, ⟨i4.1, i4.lt⟩⟩ no, fun PA PB PC PD hA hB hC hD => ?_⟩
  obtain rfl := hA.inj i1
  obtain rfl := hB.inj i2
  obtain rfl := hC.inj i3
  obtain rfl := hD.inj i4
  have hdM : (Pic.mk (.p (9)) (.p (3)) (.p (9)) (.p (7))).depth = 1 := by decide
  refine ⟨fun deep => absurd hdM (by omega), fun _ H6 D6 kp6 F6 u6 f6 => ?_⟩
  have len6 := addP_len ps5 (Pic.mk (.p (9)) (.p (3)) (.p (9)) (.p (7)))
  have mem6 := IsF.ix (addP_mem ps5 (Pic.mk (.p (9)) (.p (3)) (.p (9)) (.p (7))))
  obtain ⟨r6, e6⟩ := addP_ext ps5 (Pic.mk (.p (9)) (.p (3)) (.p (9)) (.p (7)))
  rw [e6] at F6 len6 mem6 ⊢
  obtain ⟨ps6, eps6⟩ : ∃ z, z = ps5 ++ r6 := ⟨_, rfl⟩
  rw [← eps6] at F6 len6 mem6 ⊢
  walk_at "z"
  have kpA : Keep A.foot H1 H6 := kp2.trans (kp3.trans (kp4.trans (kp5.trans kp6)))
  have sA : Same H H6 := fun b o e => kpA b o (s1 _ _ e) (fun w => by rw [hD1 b (F1.df b w)] at e; cases e)
  have hx6 := hx.same sA
  have el : linesOf (pageT x.now.deeds) = x.now.deeds.map Deed.line := lines_page hist.deeds
  have nd0 := hx.F.inv.nd
  have eline : ∀ z ∈ linesOf (pageT x.now.deeds), z.length ≤ 100 := fun z hz => by
    rw [el] at hz
    obtain ⟨dd, hd, rfl⟩ := List.mem_map.mp hz
    exact line_len (hist.deeds dd hd)
  have etl : (pageT x.now.deeds).length ≤ 90000 := by
    refine Nat.le_trans str_len (Nat.le_trans (join_bound (n := 100) (m := 200) (by rw [List.length_map]; omega) (fun y hy => ?_) (by decide +kernel)) (by decide))
    obtain ⟨dd, hd, rfl⟩ := List.mem_map.mp hy
    exact line_len (hist.deeds dd hd)
  refine ⟨p, A, D6, ps6, ps6, _, 0, rfl, F6, base_self _, by omega, by rw [el, List.length_map]; omega, fun z hz => Nat.le_trans (eline z hz) (by decide), etl, fun H7 y hy fr hk _ _ told hl => ?_, fun H7 y d i z hy fr hk hist2 hz hl bz hd => ?_⟩
  rotate_left
  · exfalso
    rw [el] at hz hl
    rw [List.getElem?_map] at hz
    cases ed : x.now.deeds[i]? with
    | none => rw [ed] at hz; cases hz
    | some dd =>
      rw [ed] at hz
      obtain rfl := Option.some.inj hz
      exact good_line hist nd0 hist2 hy.F.inv.nd ed hl bz
  rw [el] at hl
  have edd : y.now.deeds = x.now.deeds := hl.one (lines_deeds hist.deeds)
  have sim := hist.sim (told.h _ (.inl rfl)) edd nd0 hy.F.inv.nd
  have sB : Same H H7 := fun b o e => fr.keep b o (sA _ _ e) (fun w => by rw [hD1 b (F1.df b w)] at e; cases e)
  have hx7 := hx.same sB
  have hyp := fr.ep
  have hyA := fr.eA
  have hrl2 : y.now.rods.length < 64 := by
    have := congrArg List.length sim.r.nums
    rw [List.length_map, List.length_map] at this
    omega
  walk_at "z"
  refine ⟨_, _, _, rfl, hy.S.ob, noS_rods, ?_⟩
  walk_at "z"
  refine ⟨y, rfl, hy, hrl2, fun H8 la s8 na fa => ?_⟩
  have hx8 := Wd.same hx7 s8
  have hy8 := Wd.same hy s8
  walk_at "z"
  refine ⟨_, _, _, rfl, hx8.S.ob, noS_rods, ?_⟩
  walk_at "z"
  refine ⟨x, rfl, hx8, hrl, fun H9 lb s9 nb fb => ?_⟩
  have fa9 := s9 _ _ fa
  rw [sim.r.nums] at fa9
  walk_at "z"
  refine ⟨_, _, .list ((x.now.rods.map (·.n)).map PyData.int), rfl, .lst fa9 (DvAll.ints _), .lst fb (DvAll.ints _), by simp only [dpt, dpt_ints]; decide, fun H10 s10 => ?_⟩
  have s710 := s8.trans (s9.trans s10)
  have hx10 := Wd.same hx7 s710
  have hy10 := Wd.same hy s710
  walk_at "z"
  refine ⟨_, _, _, rfl, hy10.S.ob, noS_glass, ?_⟩
  walk_at "z"
  refine ⟨y, rfl, hy10, fun H11 lc vc s11 nc fc dc _ => ?_⟩
  have hx11 := Wd.same hx10 s11
  walk_at "z"
  refine ⟨_, _, _, rfl, hx11.S.ob, noS_glass, ?_⟩
  walk_at "z"
  refine ⟨x, rfl, hx11, fun H12 ld vd s12 nd fd dd _ => ?_⟩
  have dc12 := dvAll_same s12 dc
  rw [sim.glass] at dc12
  walk_at "z"
  have hg := dpt_glass x.now.a0 x.now.a1 x.now.a2 (insideTo x.ps x.now.rods)
  refine ⟨_, _, .list (glassD x.ps x.now), rfl, .lst (s12 _ _ fc) dc12, .lst fd dd, by rw [glassD_of]; simp only [dpt]; omega, fun H13 s13 => ?_⟩
  have s713 := s710.trans (s11.trans (s12.trans s13))
  have hx13 := Wd.same hx7 s713
  walk_at "z"
  refine ⟨_, _, _, rfl, hx13.S.ob, noS_rods, ?_⟩
  walk_at "z"
  refine ⟨x, rfl, hx13, hrl, fun H14 lr s14 nr flr => ?_⟩
  walk_at "z"
  refine ⟨lr, rfl, ⟨_, SqL.of flr⟩, ?_⟩
  have s714 := s713.trans s14
  have hx14 := Wd.same hx7 s714
  have hy14 := Wd.same hy s714
  have okx := hx.ok _ (.inl rfl)
  have oky := hy.ok _ (.inl rfl)
  clear hx13 hx11 hx10 hy10 hx8 hy8 dc12 dc dd fc fd fa fa9 fb hx6
  refine for_list (K := K) (a := lr) (xs := (x.now.rods.map (·.n)).map V.int) (fun i σ H' => Same H14 H' ∧ ∃ y5 y6 y7 y8 y9 y10 y11 y12, σ = [some (.ref x.s), some (.str (pageT x.now.deeds)), some (.int c), some (.ref p), some (.ref y.s), y5, y6, y7, y8, y9, y10, y11, y12]) ⟨Same.refl _, _, _, _, _, _, _, _, _, rfl⟩ (fun i σ H' _ h => SqL.of (h.1 _ _ flr)) ?_ ?_
  · rintro i v σ H15 hi ⟨s15, y5, y6, y7, y8, y9, y10, y11, y12, rfl⟩
    rw [List.getElem?_map, List.getElem?_map] at hi
    cases er : x.now.rods[i]? with
    | none => rw [er] at hi; cases hi
    | some r =>
    rw [er] at hi
    obtain rfl := Option.some.inj hi
    obtain ⟨s, es, o1, o2, o3, P, hP, hP2⟩ := sim.r.get er
    have g1 := okx.at er
    have g2 := oky.at es
    rw [o1] at g2
    obtain ⟨⟨P', hP', hdW⟩, thin, _⟩ := (okx.rod r (List.mem_of_getElem? er)).1
    obtain rfl := hP'.inj hP
    have hx15 := Wd.same hx14 s15
    have hy15 := Wd.same hy14 s15
    walk_at "z"
    refine z_methR hx15.S.ob noS_rod ?_
    walk_at "z"
    refine ⟨x.s, x.p, x.B, x.now, r.n, rfl, hx15.S.rd, fun no => absurd (no.symm.trans g1) (by simp), fun r1 a1 h1 f1 => ?_⟩
    obtain rfl : r1 = r := Option.some.inj (h1.symm.trans g1)
    refine z_gTup (SqT.of f1) rfl ?_
    walk_at "z"
    refine z_methR hy15.S.ob noS_rod ?_
    walk_at "z"
    refine ⟨y.s, y.p, y.B, y.now, r1.n, rfl, hy15.S.rd, fun no => absurd (no.symm.trans g2) (by simp), fun s1' a2 h2 f2 => ?_⟩
    obtain rfl : s1' = s := Option.some.inj (h2.symm.trans g2)
    walk_at "z"
    refine z_slT f2 (cut_from _ 1) fun a3 H16 s16 f3 => ?_
    walk_at "z"
    walk_at "zt"
    rename_i a4 n4 H17 s17 f4
    have f3 : H16 a3 = some (.tup [.int s1'.t, .int s1'.l]) := f3
    have f3' := s17 _ _ f3
    rw [o2, o3] at f3'
    refine ⟨_, _, .tuple [.int r1.t, .int r1.l], rfl, .tup f3' (.cons (.int _) (.cons (.int _) .nil)), .tup f4 (.cons (.int _) (.cons (.int _) .nil)), by simp only [dpt, dptAll]; decide, fun H18 s18 => ?_⟩
    have s1518 := s16.trans (s17.trans s18)
    have hx18 := Wd.same hx15 s1518
    have hy18 := Wd.same hy15 s1518
    obtain ⟨dxy, oby⟩ := hy18.F.ob
    rw [← hyp]
    walk_at "z"
    refine z_methR oby noFaces_counts ?_
    walk_at "z"
    refine z_ixT (SqT.of (s1518 _ _ f2)) (atI_of (n := 0) rfl rfl) ?_
    walk_at "z"
    refine ⟨y.p, y.A, y.D, y.ps, s1'.f, 12, rfl, hy18.F, fun no => absurd ⟨hP2.1, hP2.lt⟩ no, fun Q1 hQ1 => ⟨fun no => ?_, fun _ H19 l1 s19 n1 f5 => ?_⟩⟩
    · obtain rfl := hQ1.inj hP2
      exact absurd ⟨by omega, by decide⟩ no
    obtain rfl := hQ1.inj hP2
    have hx19 := Wd.same hx18 s19
    walk_at "z"
    refine z_methR hx19.S.ob noS_store ?_
    walk_at "z"
    refine ⟨x, rfl, hx19, ?_⟩
    obtain ⟨dxx, obx⟩ := hx19.F.ob
    refine z_methR obx noFaces_counts ?_
    walk_at "z"
    refine ⟨x.p, x.A, x.D, x.ps, r1.f, 12, rfl, hx19.F, fun no => absurd ⟨hP.1, hP.lt⟩ no, fun Q2 hQ2 => ⟨fun no => ?_, fun _ H20 l2 s20 n2 f6 => ?_⟩⟩
    · obtain rfl := hQ2.inj hP
      exact absurd ⟨by omega, by decide⟩ no
    obtain rfl := hQ2.inj hP
    walk_at "z"
    refine z_neSame (d := .list ((cntL Q2 ((12 : Int).toNat - Q2.depth)).map PyData.int)) (.lst (s20 _ _ f5) (DvAll.ints _)) (.lst f6 (DvAll.ints _)) (shaped_ints _) (eqv_ints _) ?_
    walk_at "z"
    have s1520 := s1518.trans (s19.trans s20)
    have hx20 := Wd.same hx15 s1520
    have hy20 := Wd.same hy15 s1520
    refine ⟨6, rfl, by decide, by decide, ?_⟩
    refine for_range (lo := 0) (n := 6) (fun j σ H' => H' = H20 ∧ ∃ y10 y11 y12, σ = [some (.ref x.s), some (.str (pageT x.now.deeds)), some (.int c), some (.ref y.p), some (.ref y.s), some (.int r1.n), some (.int r1.f), some (.int r1.t), some (.int r1.l), some (.ref a2), y10, y11, y12]) ⟨rfl, _, _, _, rfl⟩ ?_ ?_
    · rintro j σ H' hj ⟨rfl, y10, y11, y12, rfl⟩
      rw [show (0 : Int) + (j : Nat) = (j : Nat) by omega]
      walk_at "z"
      refine z_I (divW (by omega) (by omega)) ?_
      walk_at "z"
      refine z_mulI (mulc1 j c0 hnb hnb2) ?_
      walk_at "z"
      refine z_I (by decide) ?_
      walk_at "z"
      refine z_mulI (mulc2 j (by omega) c0 hnb hnb2) ?_
      walk_at "z"
      refine z_I (by decide) ?_
      walk_at "z"
      have a0 := Int.emod_nonneg (c / (1 + ((j : Nat) : Int)) * 577) (show (4096 : Int) ≠ 0 by decide)
      have a1 := Int.emod_lt_of_pos (c / (1 + ((j : Nat) : Int)) * 577) (show (0 : Int) < 4096 by decide)
      have b0 := Int.emod_nonneg ((c + ((j : Nat) : Int)) * 1361) (show (4096 : Int) ≠ 0 by decide)
      have b1 := Int.emod_lt_of_pos ((c + ((j : Nat) : Int)) * 1361) (show (0 : Int) < 4096 by decide)
      generalize (c / (1 + ((j : Nat) : Int)) * 577) % 4096 = u at a0 a1 ⊢
      generalize ((c + ((j : Nat) : Int)) * 1361) % 4096 = w at b0 b1 ⊢
      have e12 : (2 : Int) ^ (12 : Int).toNat = 4096 := by decide
      obtain ⟨dxy2, oby2⟩ := hy20.F.ob
      obtain ⟨dxx2, obx2⟩ := hx20.F.ob
      refine z_methR oby2 noFaces_cell ?_
      walk_at "z"
      refine z_ixT (SqT.of (s1520 _ _ f2)) (atI_of (n := 0) rfl rfl) ?_
      walk_at "z"
      refine ⟨y.p, y.A, y.D, y.ps, s1'.f, 12, u, w, rfl, hy20.F, fun no => absurd ⟨hP2.1, hP2.lt⟩ no, fun Q3 hQ3 => ⟨fun no => ?_, fun _ => ⟨fun no => ?_, fun _ => ?_⟩⟩⟩
      · obtain rfl := hQ3.inj hP2
        exact absurd ⟨by omega, by decide⟩ no
      · rw [e12] at no
        exact absurd ⟨⟨a0, a1⟩, b0, b1⟩ no
      obtain rfl := hQ3.inj hP2
      walk_at "z"
      refine z_methR hx20.S.ob noS_store ?_
      walk_at "z"
      refine ⟨x, rfl, hx20, ?_⟩
      refine z_methR obx2 noFaces_cell ?_
      walk_at "z"
      refine ⟨x.p, x.A, x.D, x.ps, r1.f, 12, u, w, rfl, hx20.F, fun no => absurd ⟨hP.1, hP.lt⟩ no, fun Q4 hQ4 => ⟨fun no => ?_, fun _ => ⟨fun no => ?_, fun _ => ?_⟩⟩⟩
      · obtain rfl := hQ4.inj hP
        exact absurd ⟨by omega, by decide⟩ no
      · rw [e12] at no
        exact absurd ⟨⟨a0, a1⟩, b0, b1⟩ no
      obtain rfl := hQ4.inj hP
      walk_at "z"
      refine z_iteN (fun cc => absurd rfl cc) (fun _ => ?_)
      walk_at "z"
      exact ⟨rfl, _, _, _, rfl⟩
    · rintro σ H' ⟨rfl, y10, y11, y12, rfl⟩
      walk_at "z"
      rw [hyp]
      exact ⟨s15.trans s1520, _, _, _, _, _, _, _, _, rfl⟩
  rintro σ H7x ⟨s15, y5, y6, y7, y8, y9, y10, y11, y12, rfl⟩
  have hy15 := Wd.same hy14 s15
  have sH : Same H H7x := sB.trans (s714.trans s15)
  walk_at "z"
  refine z_methR hy15.S.ob noS_store ?_
  walk_at "z"
  refine ⟨y, rfl, hy15, ?_⟩
  rw [hyp]
  have F10 := hy15.F
  rw [hyp, hyA] at F10
  have len10 : y.ps.length ≤ 72000 := hy15.len
  have kA0 : ∀ b o, H b = some o → ¬ A.foot b := fun b o e w => by rw [hD1 b (F1.df b w)] at e; cases e
  generalize y.ps = ps10 at F10 len10
  generalize y.D = D10 at F10
  obtain ⟨dxf, obf⟩ := F10.ob
  refine z_methR obf noFaces_four ?_
  walk_at "z"
  obtain ⟨dx10, ob10⟩ := F10.ob
  refine z_methR ob10 noFaces_plain ?_
  walk_at "z"
  refine ⟨p, A, D10, ps10, 1, rfl, F10, by omega, fun no => absurd ⟨by decide, by decide⟩ no, fun _ H11 D11 kp11 F11 u11 f11 => ?_⟩
  have len11 := addP_len ps10 (.p (1))
  have mem11 := IsF.ix (addP_mem ps10 (.p (1)))
  obtain ⟨r11, e11⟩ := addP_ext ps10 (.p (1))
  rw [e11] at F11 len11 mem11 ⊢
  obtain ⟨ps11, eps11⟩ : ∃ z, z = ps10 ++ r11 := ⟨_, rfl⟩
  rw [← eps11] at F11 len11 mem11 ⊢
  have up11 : ∀ {f : Int} {R : Pic}, IsF ps10 f R → IsF ps11 f R := fun h => by rw [eps11]; exact h.app
  walk_at "z"
  obtain ⟨dx11, ob11⟩ := F11.ob
  refine z_methR ob11 noFaces_plain ?_
  walk_at "z"
  refine ⟨p, A, D11, ps11, 2, rfl, F11, by omega, fun no => absurd ⟨by decide, by decide⟩ no, fun _ H12 D12 kp12 F12 u12 f12 => ?_⟩
  have len12 := addP_len ps11 (.p (2))
  have mem12 := IsF.ix (addP_mem ps11 (.p (2)))
  obtain ⟨r12, e12⟩ := addP_ext ps11 (.p (2))
  rw [e12] at F12 len12 mem12 ⊢
  obtain ⟨ps12, eps12⟩ : ∃ z, z = ps11 ++ r12 := ⟨_, rfl⟩
  rw [← eps12] at F12 len12 mem12 ⊢
  have up12 : ∀ {f : Int} {R : Pic}, IsF ps11 f R → IsF ps12 f R := fun h => by rw [eps12]; exact h.app
  walk_at "z"
  obtain ⟨dx12, ob12⟩ := F12.ob
  refine z_methR ob12 noFaces_plain ?_
  walk_at "z"
  refine ⟨p, A, D12, ps12, 3, rfl, F12, by omega, fun no => absurd ⟨by decide, by decide⟩ no, fun _ H13 D13 kp13 F13 u13 f13 => ?_⟩
  have len13 := addP_len ps12 (.p (3))
  have mem13 := IsF.ix (addP_mem ps12 (.p (3)))
  obtain ⟨r13, e13⟩ := addP_ext ps12 (.p (3))
  rw [e13] at F13 len13 mem13 ⊢
  obtain ⟨ps13, eps13⟩ : ∃ z, z = ps12 ++ r13 := ⟨_, rfl⟩
  rw [← eps13] at F13 len13 mem13 ⊢
  have up13 : ∀ {f : Int} {R : Pic}, IsF ps12 f R → IsF ps13 f R := fun h => by rw [eps13]; exact h.app
  walk_at "z"
  obtain ⟨dx13, ob13⟩ := F13.ob
  refine z_methR ob13 noFaces_plain ?_
  walk_at "z"
  refine z_I (by decide) ?_
  walk_at "z"
  have m0 := Int.emod_nonneg c (show (6 : Int) ≠ 0 by decide)
  have m1 := Int.emod_lt_of_pos c (show (0 : Int) < 6 by decide)
  generalize hcl : (4 : Int) + c % 6 = cl
  refine ⟨p, A, D13, ps13, cl, rfl, F13, by omega, fun no => absurd ⟨by omega, by omega⟩ no, fun _ H14 D14 kp14 F14 u14 f14 => ?_⟩
  have len14 := addP_len ps13 (.p (cl))
  have mem14 := IsF.ix (addP_mem ps13 (.p (cl)))
  obtain ⟨r14, e14⟩ := addP_ext ps13 (.p (cl))
  rw [e14] at F14 len14 mem14 ⊢
  obtain ⟨ps14, eps14⟩ : ∃ z, z = ps13 ++ r14 := ⟨_, rfl⟩
  rw [← eps14] at F14 len14 mem14 ⊢
  have up14 : ∀ {f : Int} {R : Pic}, IsF ps13 f R → IsF ps14 f R := fun h => by rw [eps14]; exact h.app
  walk_at "z"
  have i1 := (up14 (up13 (up12 mem11)))
  have i2 := (up14 (up13 mem12))
  have i3 := (up14 mem13)
  have i4 := mem14
  refine ⟨p, A, D14, ps14, _, _, _, _, rfl, F14, by omega, fun no => absurd ⟨⟨i1.1, i1.lt⟩, ⟨i2.1, i2.lt⟩, ⟨i3.1, i3.lt⟩, ⟨i4.1, i4.lt⟩⟩ no, fun PA PB PC PD hA hB hC hD => ?_⟩
  obtain rfl := hA.inj i1
  obtain rfl := hB.inj i2
  obtain rfl := hC.inj i3
  obtain rfl := hD.inj i4
  have hdM : (Pic.mk (.p (1)) (.p (2)) (.p (3)) (.p (cl))).depth = 1 := by
    have h1 : Pic.mk (.p 1) (.p 2) (.p 3) (.p cl) = .q (.p 1) (.p 2) (.p 3) (.p cl) := by unfold Pic.mk; rw [if_neg (by simp)]
    rw [h1]; rfl
  refine ⟨fun deep => absurd hdM (by omega), fun _ H15 D15 kp15 F15 u15 f15 => ?_⟩
  have mem15 := IsF.ix (addP_mem ps14 (Pic.mk (.p (1)) (.p (2)) (.p (3)) (.p (cl))))
  obtain ⟨dx15, ob15⟩ := F15.ob
  walk_at "z"
  refine z_methR ob15 noFaces_depth ?_
  walk_at "z"
  refine ⟨p, A, D15, _, _, rfl, F15, fun PX hX => ?_, fun no => absurd ⟨mem15.1, mem15.lt⟩ no⟩
  obtain rfl := hX.inj mem15
  rw [hdM]
  walk_at "z"
  refine q _ (fun b o e => ?_)
  exact kp15 b o (kp14 b o (kp13 b o (kp12 b o (kp11 b o (sH b o e) (kA0 b o e)) (kA0 b o e)) (kA0 b o e)) (kA0 b o e)) (kA0 b o e)
def cell (ns : List Int) (k : Nat) : Int := ns.getD k 0
def spCell (K : PySem.W.Frag) : Sp := fun vs H Q _ => ∃ (a : Addr) (ns : List Int) (k : Nat), vs = [.ref a, .int k] ∧ SqL K H a (ns.map V.int) ∧ Q (.int (cell ns k)) H
abbrev n_law_cell : List Str := ["_law_script", "_law_k"]
abbrev p_law_cell : List Str := ["_law_script", "_law_k"]
theorem sc_law_cell : FnScope n_law_cell p_law_cell (defScope s_law_cell) := ⟨rfl, rfl, rfl, by decide +kernel, rfl, by decide +kernel, by decide +kernel⟩
theorem ok__law_cell {P : Program} {w : World} {K : PySem.W.Frag} {mg : Str → Option Value} {base : Heap} (T : Tx w K mg) : Fk P w K mg base 1 (He.ga K "_law_cell") p_law_cell (spCell K) := by
  refine Fk.mk' T.f_law_cell sc_law_cell (fun _ _ _ _ _ _ us hl => match us, hl with | [_, _], _ => rfl) (by
  intro vs H Q E h
  repeat (first | (obtain ⟨h1, _⟩ := h; subst h1; rfl) | (obtain ⟨_, h⟩ := h))) (fun cdv A outer s H vs Q E hr h => ?_)
  have hu := hu_of hr
  have hu64 := hr.units
  refine ⟨_, (pss_cons (ps_if (pt_cmpR op_lt (pv 1) (pe_callB (k_len K) (by rfl) T.ulen (by decide +kernel) (pa_cons (pv 0) pa_nil)) (nomark _)) (pss_one (ps_ret (k_ix K (pv 0) (pv 1) (fun _ _ => rfl)))) pss_nil)
  (pss_one (ps_ret pe_int))), ?_⟩
  try dsimp only [cxOf]
  obtain ⟨a, ns, k, rfl, hs, q⟩ := h
  walk_at "z"
  refine z_lenL hs ?_
  walk_at "z"
  rw [List.length_map]
  refine z_ite (fun c => ?_) (fun c => ?_)
  · walk_at "z"
    refine z_ixL hs (atI_of (n := k) (v := .int (cell ns k)) ?_ rfl) q
    have hk : k < ns.length := by omega
    rw [List.getElem?_map, List.getElem?_eq_getElem hk]
    simp [cell, hk]
  · walk_at "z"
    have e : cell ns k = 0 := by simp [cell]; rw [List.getElem?_eq_none (by omega)]; rfl
    rw [e] at q
    exact q
def spUnfit (K : PySem.W.Frag) : Sp := fun vs H Q _ => ∃ (L : Addr) (c : Int) (ds : List Deed), vs = [.ref L, .int c] ∧ (∀ d ∈ ds, isDeed d.items = true) ∧ ds.length ≤ 100 ∧ H L = some (.lst ((ds.map Deed.line).map V.str)) ∧ ∀ H', Same H H' → Q (.bl true) H'
abbrev n_law_unfit : List Str := ["_law_lines", "_law_cell_here", "_law_some", "_law_first"]
abbrev p_law_unfit : List Str := ["_law_lines", "_law_cell_here"]
theorem sc_law_unfit : FnScope n_law_unfit p_law_unfit (defScope s_law_unfit) := ⟨rfl, rfl, rfl, by decide +kernel, rfl, by decide +kernel, by decide +kernel⟩
theorem ok__law_unfit {P : Program} {w : World} {K : PySem.W.Frag} {mg : Str → Option Value} {base : Heap} (T : Tx w K mg) : Fk P w K mg base 21 (He.ga K "_law_unfit") p_law_unfit (spUnfit K) := by
  have G_law_refused := ok__law_refused (P := P) (w := w) (base := base) T
  refine Fk.mk' T.f_law_unfit sc_law_unfit (fun _ _ _ _ _ _ us hl => match us, hl with | [_, _], _ => rfl) (by
  intro vs H Q E h
  repeat (first | (obtain ⟨h1, _⟩ := h; subst h1; rfl) | (obtain ⟨_, h⟩ := h))) (fun cdv A outer s H vs Q E hr h => ?_)
  have hu := hu_of hr
  have hu64 := hr.units
  refine ⟨_, (pss_cons (ps_set (i := 2) sc_law_unfit.nd rfl (Or.inl rfl) (pe_lst (pa_cons pe_str (pa_cons pe_str pa_nil))))
  (pss_cons (ps_expr (k_bm K PySem.F.plainAttrs_list PySem.F.slot_list_append PySem.F.type_list_append mt_append (pv 2) (pa_cons pe_str pa_nil)))
  (pss_cons (ps_expr (k_bm K PySem.F.plainAttrs_list PySem.F.slot_list_append PySem.F.type_list_append mt_append (pv 2) (pa_cons pe_str pa_nil)))
  (pss_cons (ps_set (i := 3) sc_law_unfit.nd rfl (Or.inl rfl) (k_ix K (pv 2) (pe_op op_mod (pv 1) pe_int) (fun _ _ => rfl)))
  (pss_one (ps_ret (q_call G_law_refused (hr.mono (by omega)) T.g_law_refused passX (pa_cons (pe_join pe_str (pe_op (k_add K) (pe_lst (pa_cons (pv 3) pa_nil)) (pv 0))) (pa_cons (pe_op (k_add K) (pe_m1 PySem.F.slot_str_count PySem.F.type_str_count mt_count (pv 3) pe_str) pe_int) pa_nil))))))))), ?_⟩
  try dsimp only [cxOf]
  obtain ⟨L, c, ds, rfl, hd, hl, hL, q⟩ := h
  walk_at "z"
  refine ⟨sz1000 (by simp), ?_⟩
  walk_at "zn"
  rename_i l1 n1 H1 s1 f1
  walk_at "z"
  refine z_tyL (SqL.of f1) ?_
  walk_at "z"
  refine z_app f1 (szlt (by simp)) ?_
  walk_at "z"
  have s2 : Same H (upd H1 l1 (.lst ([V.str "gather 1 2 1\ngather 1 1 1\nfuse 1 2", V.str "gather 1 1 1\ngather 2 1 1\nfuse 2 1"] ++ [V.str "gather 1 1 1\ngather 2 1 1\ngather 3 1 1\ngather 4 1 2\nbundle 1 2 3 4"]))) := s1.set n1
  have f2 := upd_same (H := H1) (a := l1) (o := .lst ([V.str "gather 1 2 1\ngather 1 1 1\nfuse 1 2", V.str "gather 1 1 1\ngather 2 1 1\nfuse 2 1"] ++ [V.str "gather 1 1 1\ngather 2 1 1\ngather 3 1 1\ngather 4 1 2\nbundle 1 2 3 4"]))
  generalize upd H1 l1 _ = H2 at s2 f2 ⊢
  refine z_tyL (SqL.of f2) ?_
  walk_at "z"
  refine z_app f2 (szlt (by simp)) ?_
  have s3 : Same H (upd H2 l1 (.lst (unfL.map V.str))) := s2.set n1
  have f3 := upd_same (H := H2) (a := l1) (o := .lst (unfL.map V.str))
  show _
  generalize hH3 : upd H2 l1 _ = H3
  have e3 : H3 = upd H2 l1 (.lst (unfL.map V.str)) := by rw [← hH3]; rfl
  rw [← e3] at s3 f3
  clear hH3 e3
  walk_at "z"
  refine z_I (by decide) ?_
  walk_at "z"
  have c0 := Int.emod_nonneg c (show (4 : Int) ≠ 0 by decide)
  have c1 := Int.emod_lt_of_pos c (show (0 : Int) < 4 by decide)
  obtain ⟨n, en⟩ : ∃ n : Nat, c % 4 = (n : Int) := ⟨(c % 4).toNat, by omega⟩
  rw [en] at c1 ⊢
  have hn : n < 4 := by omega
  refine z_ixL (SqL.of f3) (atI_of (n := n) (v := .str (unfL.getD n "")) (by
    have hn : n < unfL.length := by show n < 4; omega
    show (unfL.map V.str)[n]? = _
    rw [List.getElem?_map, List.getElem?_eq_getElem hn, List.getD_eq_getElem?_getD, List.getElem?_eq_getElem hn]; rfl) rfl) ?_
  walk_at "z"
  refine z_m1 ?_
  walk_at "z"
  refine ⟨⟨_, rfl⟩, ?_⟩
  walk_at "z"
  walk_at "zt"
  rename_i l4 n4 H4 s4 f4
  have s34 := s3.trans s4
  walk_at "z"
  refine z_addL f4 (s34 _ _ hL) (sz1000 (by simp; omega)) ?_
  walk_at "zn"
  rename_i l5 n5 H5 s5 f5
  walk_at "z"
  have f5 : H5 l5 = some (.lst ((unfL.getD n "" :: ds.map Deed.line).map V.str)) := f5
  have uw : ∀ n < 4, (unfL.getD n "").length ≤ 100 := by decide +kernel
  have hbd : ((unfL.getD n "" :: ds.map Deed.line).map (·.length)).sum + (unfL.getD n "" :: ds.map Deed.line).length * ("\n" : Str).length ≤ 200 * 100 + 200 := by
    refine join_bound (n := 100) (m := 200) (by simp; omega) (fun y hy => ?_) (by decide +kernel)
    rcases List.mem_cons.mp hy with rfl | hy
    · exact uw n hn
    · obtain ⟨dd, h, rfl⟩ := List.mem_map.mp hy
      exact line_len (hd dd h)
  refine ⟨_, _, _, rfl, rfl, .inl (SqL.of f5), Nat.le_trans hbd (by decide), ?_⟩
  walk_at "z"
  refine z_m1 ?_
  walk_at "z"
  refine ⟨⟨_, rfl⟩, ?_⟩
  walk_at "z"
  refine ⟨_, _, rfl, rfl, ?_⟩
  walk_at "z"
  rw [unf_count n hn]
  obtain ⟨b1, b2, b3⟩ := unfit_at hd hl hn (text := Txt.join "\n" (unfL.getD n "" :: ds.map Deed.line)) rfl
  refine ⟨_, _, rfl, b2, b3, Nat.le_trans str_len (Nat.le_trans hbd (by decide)), b1, fun H6 s6 => ?_⟩
  walk_at "z"
  exact q _ (s34.trans (s5.trans s6))
abbrev nShop_redo : List Str := ["self"]
abbrev pShop_redo : List Str := ["self"]
theorem scShop_redo : FnScope nShop_redo pShop_redo (defScope sShop_redo) := ⟨rfl, rfl, rfl, by decide +kernel, rfl, by decide +kernel, by decide +kernel⟩
theorem ok_Shop_redo {P : Program} {w : World} {K : PySem.W.Frag} {mg : Str → Option Value} {base : Heap} (T : Tx w K mg) : Fk P w K mg base 2 (He.ma K (He.ga K "Shop") "redo") pShop_redo (spRedo K) := by
  have GShop_become := ok_Shop_become (P := P) (w := w) (base := base) T
  have GShop_kept := ok_Shop_kept (P := P) (w := w) (base := base) T
  refine Fk.mk' T.fShop_redo scShop_redo (fun _ _ _ _ _ _ us hl => match us, hl with | [_], _ => rfl) (by
  intro vs H Q E h
  repeat (first | (obtain ⟨h1, _⟩ := h; subst h1; rfl) | (obtain ⟨_, h⟩ := h))) (fun cdv A outer s H vs Q E hr h => ?_)
  have hu := hu_of hr
  have hu64 := hr.units
  refine ⟨_, (pss_cons (ps_if (pt_cmpR (k_eqNil K hu) (k_fld K (pv 0) rfl) (pe_lst pa_nil) (nomark _)) (pss_one (ps_raise rfl takesX (pmk_own PySem.F.excBase_ValueError T.eNothingLeft.1 T.gNothingLeft T.eNothingLeft.2.1 (raises_own T.eNothingLeft.2.2.1 T.eNothingLeft.2.2.2) (by rfl)))) pss_nil)
  (pss_cons (ps_expr (k_bm K PySem.F.plainAttrs_list PySem.F.slot_list_append PySem.F.type_list_append mt_append (k_fld K (pv 0) rfl) (pa_cons (q_meth0 (pv 0) T.cShop T.mShop_kept GShop_kept (hr.mono (by omega)) passX) pa_nil)))
  (pss_one (ps_expr (q_meth (pv 0) T.cShop T.mShop_become GShop_become (hr.mono (by omega)) passX (pa_cons (k_bm0 K PySem.F.plainAttrs_list PySem.F.slot_list_pop PySem.F.type_list_pop mt_pop (k_fld K (pv 0) rfl)) pa_nil)))))), ?_⟩
  try dsimp only [cxOf]
  obtain ⟨x, rfl, h, hal, e, q⟩ := h
  walk_at "z"
  refine z_fldR h.S.ob T.cShop T.aShop_ahead lkS_ahead ?_
  walk_at "z"
  walk_at "zt"
  rename_i l1 nl1 H1 s1 f1
  have h1 := h.same s1
  have kl := h.S.ka.len
  walk_at "z"
  refine ⟨x.B.la, l1, x.B.ws, rfl, rfl, SqL.of h1.S.ha, SqL.of f1, ?_⟩
  walk_at "z"
  refine z_ite (fun c => ?_) (fun c => ?_)
  · walk_at "z"
    exact e (List.eq_nil_of_length_eq_zero (by omega)) H1 s1
  obtain ⟨pst, st, ep⟩ : ∃ pst st, x.ahead = pst ++ [st] := by
    rcases List.eq_nil_or_concat x.ahead with z | ⟨L, b, z⟩
    · rw [z] at kl; exact absurd kl.1 c
    · exact ⟨L, b, by simpa using z⟩
  walk_at "z"
  refine z_fldR h1.S.ob T.cShop T.aShop_behind lkS_behind ?_
  refine z_tyL (SqL.of h1.S.hb) ?_
  walk_at "z"
  refine z_methR h1.S.ob noS_kept ?_
  walk_at "z"
  refine ⟨x.s, x.p, x.B, x.now, x.past, x.ahead, rfl, h1.S, fun H2 t q1 s2 ht hs2 nd2 fr2 nt => ?_⟩
  have h2 := h1.same s2
  have hS2 := h2.S
  rw [ep] at hS2
  have out : ∀ a ∈ q1.muts, a ∉ x.B.muts x.s := fun a ha z => by
    obtain ⟨o, e2, _⟩ := h1.S.there a z
    rw [fr2 a ha] at e2; cases e2
  obtain ⟨vs0, qs0, tl, ql, ev, etl, fin⟩ := hS2.forth ht hs2 nd2 out
  have A := hS2.apt
  have wl := h.S.kb.len
  have hpl0 := h.pl
  have hkl0 := h.kl
  walk_at "z"
  refine z_app hS2.hb (by rw [wl.1]; exact szlt (by omega)) ?_
  have k3 := tup_stay (o := .lst (x.B.vs ++ [.ref t])) hS2.hb (fun _ z => by cases z)
  have ob3 : (upd H2 x.B.lb (.lst (x.B.vs ++ [.ref t]))) x.s = _ := (upd_ne A.s1).trans hS2.ob
  have lb3 : (upd H2 x.B.lb (.lst (x.B.vs ++ [.ref t]))) x.B.la = some (.lst x.B.ws) := by rw [upd_ne A.b1.symm]; exact hS2.ha
  have la3 : (upd H2 x.B.lb (.lst (x.B.vs ++ [.ref t]))) x.B.lb = some (.lst (x.B.vs ++ [.ref t])) := upd_same
  have o3 : ∀ a, a ≠ x.B.lb → (upd H2 x.B.lb (.lst (x.B.vs ++ [.ref t]))) a = H2 a := fun a ha => upd_ne ha
  generalize upd H2 x.B.lb (.lst (x.B.vs ++ [.ref t])) = H3 at k3 ob3 lb3 la3 o3 ⊢
  walk_at "z"
  refine z_methR ob3 noS_become ?_
  walk_at "z"
  refine z_fldR ob3 T.cShop T.aShop_ahead lkS_ahead ?_
  rw [ev] at lb3
  walk_at "z"
  refine z_tyL (SqL.of lb3) ?_
  refine ⟨x.B.la, vs0 ++ [.ref tl], .ref tl, rfl, rfl, lb3, by simp, ?_⟩
  rw [List.dropLast_concat]
  have nm : ∀ b, H3 b = some (.lst (vs0 ++ [.ref tl])) → True := fun _ _ => trivial
  have k4 := tup_stay (o := .lst vs0) lb3 (fun _ z => by cases z)
  have ob4 : (upd H3 x.B.la (.lst vs0)) x.s = _ := (upd_ne A.s2).trans ob3
  have lb4 : (upd H3 x.B.la (.lst vs0)) x.B.la = some (.lst vs0) := upd_same
  have la4 : (upd H3 x.B.la (.lst vs0)) x.B.lb = some (.lst (x.B.vs ++ [.ref t])) := (upd_ne A.b1).trans la3
  have o4 : ∀ a, a ≠ x.B.la → (upd H3 x.B.la (.lst vs0)) a = H3 a := fun a ha => upd_ne ha
  generalize upd H3 x.B.la (.lst vs0) = H4 at k4 ob4 lb4 la4 o4 ⊢
  walk_at "z"
  refine ⟨x.s, tl, x.B.dx, _, _, _, _, _, _, _, _, _, _, _, _, _, rfl, ob4, k4 _ _ (k3 _ _ etl), fun H5 ob5 o5 => ?_⟩
  have k5 : ∀ a xs, H2 a = some (.tup xs) → H5 a = some (.tup xs) := fun a xs e1 => by
    rw [o5 a (fun z => by rw [z, hS2.ob] at e1; cases e1)]
    exact k4 _ _ (k3 _ _ e1)
  have oth : ∀ a, a ≠ x.s → a ≠ x.B.lb → a ≠ x.B.la → H5 a = H2 a := fun a n1 n2 n3 => by rw [o5 a n1, o4 a n3, o3 a n2]
  obtain ⟨hS5, m5⟩ := fin H5 k5 (fun a n1 n2 n3 o e1 => by rw [oth a n1 n3 n2]; exact e1) (by rw [o5 _ (Ne.symm A.s1)]; exact la4) (by rw [o5 _ (Ne.symm A.s2)]; exact lb4) ob5
  have s12 := s1.trans s2
  have inM : ∀ a, (a = x.s ∨ a = x.B.lb ∨ a = x.B.la) → a ∈ x.B.muts x.s := fun a ha => by
    rcases ha with rfl | rfl | rfl <;> simp [SB.muts]
  have kp5 : Keep (fun b => b ∈ x.B.muts x.s) H2 H5 := fun b o e1 nb => by
    rw [oth b (fun z => nb (inM b (.inl z))) (fun z => nb (inM b (.inr (.inl z)))) (fun z => nb (inM b (.inr (.inr z))))]
    exact e1
  have lv5 : Live H2 H5 := fun b z => by
    by_cases n1 : b = x.s
    · rw [n1, ob5] at z; cases z
    · by_cases n2 : b = x.B.lb
      · rw [o5 b n1, n2, la4] at z; cases z
      · by_cases n3 : b = x.B.la
        · rw [o5 b n1, n3, lb4] at z; cases z
        · rw [← oth b n1 n2 n3]; exact z
  have h2' : x.at K H2 := h2
  have hF5 : FacesAt (He.ga K "Faces") H5 x.p x.A x.D x.ps := h2'.F.keep fun b o hb e1 => kp5 b o e1 fun z => h2'.ap b z hb
  have fr0 : ∀ b ∈ q1.muts, H b = none := fun b hb => s1.free (fr2 b hb)
  have m5' : ∀ b ∈ SB.muts x.s { x.B with q := ql, qs := x.B.qs ++ [q1], vs := x.B.vs ++ [.ref t], rs := qs0, ws := vs0 }, b ∈ x.B.muts x.s ∨ H b = none := fun b hb => (m5 b hb).imp id (fr0 b)
  have hpl := h.pl
  have hokp : ∀ z, z = st ∨ z ∈ x.past ++ [x.now] ∨ z ∈ pst → StOk x.ps x.k z := fun z hz => by
    rcases hz with hz | hz | hz
    · exact h.ok z (.inr (.inr (by rw [ep, hz]; simp)))
    · rcases List.mem_append.mp hz with hz | hz
      · exact h.ok z (.inr (.inl hz))
      · exact h.ok z (.inl (by simpa using hz))
    · exact h.ok z (.inr (.inr (by rw [ep]; exact List.mem_append_left _ hz)))
  exact q pst st ep H5 ⟨x.p, x.A, x.D, x.ps, x.bs, x.s, { x.B with q := ql, qs := x.B.qs ++ [q1], vs := x.B.vs ++ [.ref t], rs := qs0, ws := vs0 }, st, x.past ++ [x.now], pst, x.k⟩
    ⟨hF5, h.base, hS5, fun a ha => (m5' a ha).elim (h.ap a) h.F.nd, hokp, h.bl, h.kl, by rw [ep, List.length_append] at hal; simp at hal ⊢; omega⟩
    ⟨rfl, rfl, rfl, ⟨[], (List.append_nil _).symm⟩, (s12.keep).trans (kp5.mono fun b hb => .inr hb), s12.live.trans lv5, fun _ hb => .inl hb, m5'⟩ rfl rfl rfl rfl rfl
def spNoneAgain (K : PySem.W.Frag) : Sp := fun vs H Q _ => ∃ x : Ws, vs = [.ref x.s] ∧ x.at K H ∧ x.past.length + x.ahead.length ≤ x.k ∧ x.ahead = [] ∧ ∀ H', Same H H' → Q (.bl true) H'
abbrev n_law_none_again : List Str := ["_law_shop", "_law_word"]
abbrev p_law_none_again : List Str := ["_law_shop"]
theorem sc_law_none_again : FnScope n_law_none_again p_law_none_again (defScope s_law_none_again) := ⟨rfl, rfl, rfl, by decide +kernel, rfl, by decide +kernel, by decide +kernel⟩
theorem ok__law_none_again {P : Program} {w : World} {K : PySem.W.Frag} {mg : Str → Option Value} {base : Heap} (T : Tx w K mg) : Fk P w K mg base 3 (He.ga K "_law_none_again") p_law_none_again (spNoneAgain K) := by
  have GShop_redo := ok_Shop_redo (P := P) (w := w) (base := base) T
  refine Fk.mk' T.f_law_none_again sc_law_none_again (fun _ _ _ _ _ _ us hl => match us, hl with | [_], _ => rfl) (by
  intro vs H Q E h
  repeat (first | (obtain ⟨h1, _⟩ := h; subst h1; rfl) | (obtain ⟨_, h⟩ := h))) (fun cdv A outer s H vs Q E hr h => ?_)
  have hu := hu_of hr
  have hu64 := hr.units
  refine ⟨_, (pss_cons (ps_set (i := 1) sc_law_none_again.nd rfl (Or.inl rfl) pe_str)
  (pss_cons (ps_try_only rfl rfl ⟨rfl, by decide, .inl T.gNothingLeft⟩ takesX (fun W pn xe tk hpo => (pss_one (ps_expr (q_meth0S (pv 0) T.cShop T.mShop_redo GShop_redo (hr.mono (by omega)) (fun σ => passAt tk σ))))) (fun a oe cls d pn _ _ => (pss_one (ps_set (i := 1) sc_law_none_again.nd rfl (Or.inl rfl) pe_str))))
  (pss_one (ps_ret (pe_cmpR (k_eq K hu64) (pv 1) pe_str (nomark _)))))), ?_⟩
  try dsimp only [cxOf]
  obtain ⟨x, rfl, hx, hk, ha, q⟩ := h
  walk_at "z"
  refine ⟨_, _, _, rfl, hx.S.ob, noS_redo, ?_⟩
  walk_at "z"
  refine ⟨x, rfl, hx, hk, fun no H' s => ⟨true, T.xNothingLeft_NothingLeft, fun _ a _ => ?_, fun z => by cases z⟩, fun apst st ep H' y hy g n pa ah ps kk => absurd ep (by rw [ha]; simp)⟩
  walk_at "z"
  exact q H' s
def spCopied : Sp := fun vs H Q _ => ∃ (t0 : Addr) (qk : SP) (st : SS), vs = [.ref t0] ∧ H t0 = some (.tup (keptV qk st)) ∧ SnapAt H qk st ∧ ∀ H' t q, Same H H' → H' t = some (.tup (keptV q st)) → SnapAt H' q st → q.muts.Nodup → (∀ a ∈ q.muts, H a = none) → H t = none → Q (.ref t) H'
abbrev ncopied : List Str := ["kept", "standing", "coming", "amounts", "bundles", "deeds_done", "row"]
abbrev pcopied : List Str := ["kept"]
theorem sccopied : FnScope ncopied pcopied (defScope scopied) := ⟨rfl, rfl, rfl, by decide +kernel, rfl, by decide +kernel, by decide +kernel⟩
theorem ok_copied {P : Program} {w : World} {K : PySem.W.Frag} {mg : Str → Option Value} {base : Heap} (T : Tx w K mg) : Fk P w K mg base 1 (He.ga K "copied") pcopied (spCopied) := by
  refine Fk.mk' T.fcopied sccopied (fun _ _ _ _ _ _ us hl => match us, hl with | [_], _ => rfl) (by
  intro vs H Q E h
  repeat (first | (obtain ⟨h1, _⟩ := h; subst h1; rfl) | (obtain ⟨_, h⟩ := h))) (fun cdv A outer s H vs Q E hr h => ?_)
  have hu := hu_of hr
  have hu64 := hr.units
  refine ⟨_, (pss_cons (ps_asg (pv 0) (k_pgt (n := 5) K rfl (pgs_cons (pg_name (i := 1) sccopied.nd rfl (Or.inl rfl)) (pgs_cons (pg_name (i := 2) sccopied.nd rfl (Or.inl rfl)) (pgs_cons (pg_name (i := 3) sccopied.nd rfl (Or.inl rfl)) (pgs_cons (pg_name (i := 4) sccopied.nd rfl (Or.inl rfl)) (pgs_cons (pg_name (i := 5) sccopied.nd rfl (Or.inl rfl)) pgs_nil)))))))
  (pss_one (ps_ret (pe_tup (pa_cons (pe_callTy call_dictD (by rfl) T.udict (by decide +kernel) (pa_cons (pv 1) pa_nil)) (pa_cons (pv 2) (pa_cons (pe_callTy (k_tuple K) (by rfl) T.utuple (by decide +kernel) (pa_cons (pe_lc (own := [("row", 6)]) (g := gName 6) rfl sccopied.nd (k_pit K (pv 3)) (blkOk_by (own := [("row", 6)]) (N := ncopied) (sc := defScope scopied) (by decide +kernel)) (fun _ _ _ _ _ => pg_name (i := 6) sccopied.nd rfl (Or.inl rfl)) (fun _ _ _ _ _ => pts_nil) (fun _ _ _ _ _ => (pe_callTy (k_list K) (by rfl) T.ulist (by decide +kernel) (pa_cons (pv 6) pa_nil)))) pa_nil)) (pa_cons (pe_callTy (k_list K) (by rfl) T.ulist (by decide +kernel) (pa_cons (pv 4) pa_nil)) (pa_cons (pe_callTy (k_list K) (by rfl) T.ulist (by decide +kernel) (pa_cons (pv 5) pa_nil)) pa_nil))))))))), ?_⟩
  try dsimp only [cxOf]
  obtain ⟨t0, qk, st, rfl, ht, hS, q⟩ := h
  obtain ⟨⟨kvs, hk, hr⟩, ham, h0, h1, h2, hb, ⟨vs, hd, hdd⟩⟩ := id hS
  walk_at "z"
  refine z_gTup (SqT.of ht) rfl ?_
  unfold keptV
  walk_at "z"
  refine ⟨_, kvs, rfl, .inl hk, ?_⟩
  walk_at "zn"
  rename_i d nd3 HB sB f3
  replace ham := sB _ _ ham
  replace h0 := sB _ _ h0
  replace h1 := sB _ _ h1
  replace h2 := sB _ _ h2
  walk_at "z"
  refine ⟨_, rfl, ⟨_, SqT.of ham⟩, fun L hL => ?_⟩
  have hget : ∀ (i : Nat) (x : V), ([V.ref qk.l0, V.ref qk.l1, V.ref qk.l2] : List V)[i]? = some x → ∃ a l, x = .ref a ∧ HB a = some (.lst (l : List V)) ∧ ([st.a0.map V.int, st.a1.map V.int, st.a2.map V.int] : List (List V))[i]? = some l := by
    intro i x e
    match i, e with
    | 0, e => exact ⟨_, _, (Option.some.inj e).symm, h0, rfl⟩
    | 1, e => exact ⟨_, _, (Option.some.inj e).symm, h1, rfl⟩
    | 2, e => exact ⟨_, _, (Option.some.inj e).symm, h2, rfl⟩
    | i + 3, e => simp at e
  refine lc_tup (K := K) (a := qk.am) (xs := [V.ref qk.l0, V.ref qk.l1, V.ref qk.l2]) (fun i H' => Same HB H' ∧ ∃ ns : List Addr, H' L = some (.lst (ns.map V.ref)) ∧ ns.length = i ∧ ns.Nodup ∧ L ∉ ns ∧ (∀ a ∈ ns, HB a = none) ∧ ∀ (j : Nat) (a : Addr) (l : List V), ns[j]? = some a → ([st.a0.map V.int, st.a1.map V.int, st.a2.map V.int] : List (List V))[j]? = some l → H' a = some (.lst l))
    ⟨Same.new hL, [], upd_same, rfl, by simp, by simp, by simp, fun j a l e => by simp at e⟩ (fun i H' _ h => SqT.of (h.1 _ _ ham)) ?_ ?_
  · rintro i x H' hi ⟨s1, ns, f1, hn, nd, nL, fr, hal⟩
    obtain ⟨a, l, rfl, ha, hl⟩ := hget i x hi
    have hi3 : i < 3 := by have := (List.getElem?_eq_some_iff.mp hi).1; simpa using this
    walk_at "zw"
    walk_at "z"
    refine ⟨rfl, ?_⟩
    walk_at "z"
    refine z_listL (SqL.of (s1 _ _ ha)) ?_
    intro n hnn
    have n0 : HB n = none := s1.free hnn
    have nLn : n ≠ L := fun z => by rw [z, f1] at hnn; cases hnn
    have nin : n ∉ ns := fun z => by
      obtain ⟨j, hj⟩ := List.mem_iff_getElem?.mp z
      have hj3 : j < 3 := by have := (List.getElem?_eq_some_iff.mp hj).1; omega
      have := hal j n _ hj (List.getElem?_eq_getElem (by simpa using hj3))
      rw [this] at hnn; cases hnn
    have f2 : (upd H' n (.lst l)) L = some (.lst (ns.map V.ref)) := by rw [upd_ne nLn.symm]; exact f1
    refine ⟨_, f2, szlt (by simp; omega), (s1.trans (Same.new hnn)).set hL, ns ++ [n], by rw [upd_same, List.map_append]; rfl, by simp [hn], ?_, ?_, ?_, ?_⟩
    · rw [List.nodup_append]
      exact ⟨nd, by simp, fun a ha b hb e => by simp at hb; exact nin (by rw [← hb, ← e]; exact ha)⟩
    · simp only [List.mem_append, List.mem_singleton, not_or]
      exact ⟨nL, nLn.symm⟩
    · intro a ha
      rcases List.mem_append.mp ha with z | z
      · exact fr a z
      · simp at z; rw [z]; exact n0
    · intro j a l' ej el
      have aL : a ≠ L := fun z => by
        have := List.mem_of_getElem? ej
        rcases List.mem_append.mp this with y | y
        · exact nL (z ▸ y)
        · simp at y; exact nLn (by rw [← y, z])
      rw [upd_ne aL]
      by_cases hj : j < ns.length
      · rw [List.getElem?_append_left hj] at ej
        have an : a ≠ n := fun z => nin (z ▸ List.mem_of_getElem? ej)
        rw [upd_ne an]
        exact hal j a l' ej el
      · have hj2 : j = i := by
          have := (List.getElem?_eq_some_iff.mp ej).1
          simp at this; omega
        subst hj2
        rw [List.getElem?_append_right (by omega), hn, Nat.sub_self] at ej
        obtain rfl : n = a := by simpa using ej
        rw [hl] at el
        rw [upd_same, Option.some.inj el]
  · rintro H1 ⟨s1, ns, f1, hn, nd, nL, fr, hal⟩
    obtain ⟨n0, n1, n2, rfl⟩ : ∃ a b c, ns = [a, b, c] := by
      match ns, hn with
      | [a, b, c], _ => exact ⟨a, b, c, rfl⟩
    have g0 := hal 0 n0 _ rfl rfl
    have g1 := hal 1 n1 _ rfl rfl
    have g2 := hal 2 n2 _ rfl rfl
    walk_at "z"
    refine z_tupL (SqL.of f1) ?_
    walk_at "zn"
    rename_i am nam H2 s2 f2
    have s02 := s1.trans s2
    have s02 := s1.trans s2
    walk_at "z"
    refine z_listL (SqL.of (s02 _ _ (sB _ _ hb))) ?_
    walk_at "zn"
    rename_i b nb H4 s4 f4
    have s04 := s02.trans s4
    walk_at "z"
    refine z_listL (SqL.of (s04 _ _ (sB _ _ hd))) ?_
    walk_at "zn"
    rename_i dd nddd H5 s5 f5
    have s05 := s04.trans s5
    walk_at "z"
    walk_at "zt"
    rename_i t nt H6 s6 f6
    have s06 := s05.trans s6
    have s26 : Same H2 H6 := s4.trans (s5.trans s6)
    have s16 : Same H1 H6 := s2.trans s26
    have kt : ∀ a xs, H a = some (.tup xs) → H6 a = some (.tup xs) := fun a xs e => s06 _ _ (sB _ _ e)
    refine q H6 t ⟨d, am, n0, n1, n2, b, dd⟩ (sB.trans s06) f6 ⟨⟨kvs, s06 _ _ f3, hr.stay kt⟩, s26 _ _ f2, s16 _ _ g0, s16 _ _ g1, s16 _ _ g2, (s5.trans s6) _ _ f4, ⟨vs, s6 _ _ f5, dvAll_stay kt (deeds_flat _) hdd⟩⟩ ?_ ?_ (sB.free (s05.free nt))
    · have dn : ∀ (x y : Addr) (o : HO) (G : Hp), G x = some o → G y = none → x ≠ y := fun x y o G e n z => by rw [← z, e] at n; cases n
      have hnd := nd
      simp only [List.nodup_cons, List.mem_cons, List.not_mem_nil, or_false, not_or, not_false_eq_true, List.nodup_nil, and_true] at hnd
      obtain ⟨⟨x1, x2⟩, x3⟩ := hnd
      have i0 := s2 _ _ g0
      have i1 := s2 _ _ g1
      have i2 := s2 _ _ g2
      simp only [SP.muts, List.nodup_cons, List.mem_cons, List.not_mem_nil, or_false, not_or, not_false_eq_true, List.nodup_nil, and_true]
      exact ⟨⟨dn _ _ _ _ f3 (fr _ (by simp)), dn _ _ _ _ f3 (fr _ (by simp)), dn _ _ _ _ f3 (fr _ (by simp)), dn _ _ _ _ (s02 _ _ f3) nb, dn _ _ _ _ (s04 _ _ f3) nddd⟩, ⟨x1, x2, dn _ _ _ _ i0 nb, dn _ _ _ _ (s4 _ _ i0) nddd⟩, ⟨x3, dn _ _ _ _ i1 nb, dn _ _ _ _ (s4 _ _ i1) nddd⟩, ⟨dn _ _ _ _ i2 nb, dn _ _ _ _ (s4 _ _ i2) nddd⟩, dn _ _ _ _ f4 nddd⟩
    · intro a ha
      simp only [SP.muts, List.mem_cons, List.not_mem_nil, or_false] at ha
      rcases ha with rfl | rfl | rfl | rfl | rfl | rfl
      · exact nd3
      · exact sB.free (fr _ (by simp))
      · exact sB.free (fr _ (by simp))
      · exact sB.free (fr _ (by simp))
      · exact sB.free (s02.free nb)
      · exact sB.free (s04.free nddd)
theorem KeptIn.at_ {H : Hp} {vs : List V} {qs : List SP} {sts : List SS} (h : KeptIn H vs qs sts) : ∀ {i : Nat} {v : V}, vs[i]? = some v → ∃ t q st, v = .ref t ∧ sts[i]? = some st ∧ H t = some (.tup (keptV q st)) ∧ SnapAt H q st := by
  induction h with
  | nil => intro i v e; simp at e
  | cons e1 s1 _ ih =>
    intro i v e
    cases i with
    | zero => exact ⟨_, _, _, (by simpa using e.symm), rfl, e1, s1⟩
    | succ i =>
      obtain ⟨t, q, st, h1, h2, h3, h4⟩ := ih (i := i) (v := v) (by simpa using e)
      exact ⟨t, q, st, h1, by simpa using h2, h3, h4⟩
def spTwin (K : PySem.W.Frag) : Sp := fun vs H Q E => ∃ x : Ws, vs = [.ref x.s] ∧ x.at K H ∧ x.past.length + x.ahead.length ≤ 10000 ∧ ∀ H' (z : Ws), Same H H' → z.at K H' → Two x z → z.now = x.now → z.past = x.past → z.ahead = x.ahead → z.k = x.k → (∀ b ∈ z.B.muts z.s, H b = none) → Q (.ref z.s) H'
abbrev nShop_twin : List Str := ["self", "other", "kept"]
abbrev pShop_twin : List Str := ["self"]
theorem scShop_twin : FnScope nShop_twin pShop_twin (defScope sShop_twin) := ⟨rfl, rfl, rfl, by decide +kernel, rfl, by decide +kernel, by decide +kernel⟩
theorem ok_Shop_twin {P : Program} {w : World} {K : PySem.W.Frag} {mg : Str → Option Value} {base : Heap} (T : Tx w K mg) : Fk P w K mg base 3 (He.ma K (He.ga K "Shop") "twin") pShop_twin (spTwin K) := by
  have GShop___init__ := ok_Shop___init__ (P := P) (w := w) (base := base) T
  have GShop_become := ok_Shop_become (P := P) (w := w) (base := base) T
  have GShop_kept := ok_Shop_kept (P := P) (w := w) (base := base) T
  have Gcopied := ok_copied (P := P) (w := w) (base := base) T
  refine Fk.mk' T.fShop_twin scShop_twin (fun _ _ _ _ _ _ us hl => match us, hl with | [_], _ => rfl) (by
  intro vs H Q E h
  repeat (first | (obtain ⟨h1, _⟩ := h; subst h1; rfl) | (obtain ⟨_, h⟩ := h))) (fun cdv A outer s H vs Q E hr h => ?_)
  have hu := hu_of hr
  have hu64 := hr.units
  refine ⟨_, (pss_cons (ps_set (i := 1) scShop_twin.nd rfl (Or.inl rfl) (q_make T.kShop GShop___init__ (hr.mono (by omega)) T.gShop passX (pa_cons (k_fld K (pv 0) rfl) pa_nil)))
  (pss_cons (ps_expr (q_meth (pv 1) T.cShop T.mShop_become GShop_become (hr.mono (by omega)) passX (pa_cons (q_meth0 (pv 0) T.cShop T.mShop_kept GShop_kept (hr.mono (by omega)) passX) pa_nil)))
  (pss_cons (k_sfld K (pv 1) (pe_lc (own := [("kept", 2)]) (g := gName 2) rfl scShop_twin.nd (k_pil K (k_fld K (pv 0) rfl)) (blkOk_by (own := [("kept", 2)]) (N := nShop_twin) (sc := defScope sShop_twin) (by decide +kernel)) (fun _ _ _ _ _ => pg_name (i := 2) scShop_twin.nd rfl (Or.inl rfl)) (fun _ _ _ _ _ => pts_nil) (fun _ _ _ _ _ => (q_call Gcopied (hr.mono (by omega)) T.gcopied passL (pa_cons (pv 2) pa_nil)))) rfl)
  (pss_cons (k_sfld K (pv 1) (pe_lc (own := [("kept", 2)]) (g := gName 2) rfl scShop_twin.nd (k_pil K (k_fld K (pv 0) rfl)) (blkOk_by (own := [("kept", 2)]) (N := nShop_twin) (sc := defScope sShop_twin) (by decide +kernel)) (fun _ _ _ _ _ => pg_name (i := 2) scShop_twin.nd rfl (Or.inl rfl)) (fun _ _ _ _ _ => pts_nil) (fun _ _ _ _ _ => (q_call Gcopied (hr.mono (by omega)) T.gcopied passL (pa_cons (pv 2) pa_nil)))) rfl)
  (pss_one (ps_ret (pv 1))))))), ?_⟩
  try dsimp only [cxOf]
  obtain ⟨x, rfl, h, hlen, q⟩ := h
  have hkb := h.S.kb
  have hka := h.S.ka
  have hvl := hkb.len.1
  have hwl := hka.len.1
  walk_at "z"
  refine z_mkS ?_
  walk_at "z"
  refine z_fldR h.S.ob T.cShop T.aShop_faces lkS_faces ?_
  walk_at "z"
  refine RawS.of fun H1 s' B' s1 hS' fr' => ?_
  have ns' : H s' = none := fr' s' (by simp [SB.muts])
  have h1 := Wd.same h s1
  walk_at "z"
  refine z_methR hS'.ob noS_become ?_
  walk_at "z"
  refine z_methR h1.S.ob noS_kept ?_
  walk_at "z"
  refine ⟨x.s, x.p, x.B, x.now, x.past, x.ahead, rfl, h1.S, fun H2 t q1 s2 ht hq1 nd1 fr1 nt => ?_⟩
  have hS2 := hS'.same s2
  walk_at "z"
  refine ⟨s', t, _, _, _, _, _, _, _, _, _, _, _, _, _, _, rfl, hS2.ob, ht, fun H3 e3 k3 => ?_⟩
  have al1 : ∃ o, H1 s' = some o := ⟨_, hS'.ob⟩
  have xs' : x.s ≠ s' := fun z => by have := h.S.ob; rw [z, ns'] at this; cases this
  have q1s : s' ∉ q1.muts := fun z => by obtain ⟨o, e⟩ := al1; rw [fr1 _ z] at e; cases e
  have S03 : Same H H3 := fun a o e => by
    rw [k3 a (fun z => by rw [z, ns'] at e; cases e)]
    exact s2 _ _ (s1 _ _ e)
  have hk3 := hkb.stay (H' := H3) (fun a xs e => S03 _ _ e) (fun a _ o e => S03 _ _ e)
  have h3 := Wd.same h S03
  walk_at "z"
  refine z_fldR h3.S.ob T.cShop T.aShop_behind lkS_behind ?_
  refine ⟨x.B.lb, rfl, ⟨_, SqL.of h3.S.hb⟩, fun L1 hL1 => ?_⟩
  refine lc_list (K := K) (a := x.B.lb) (xs := x.B.vs) (fun i H' => Same H3 H' ∧ ∃ vs' qs', H' L1 = some (.lst vs') ∧ vs'.length = i ∧ KeptIn H' vs' qs' (x.past.take i) ∧ (qs'.flatMap SP.muts).Nodup ∧ ∀ a ∈ qs'.flatMap SP.muts, H3 a = none ∧ a ≠ L1)
    ⟨Same.new hL1, [], [], upd_same, rfl, KeptIn.nil, by simp, by simp⟩ (fun i H' _ h => SqL.of (h.1 _ _ h3.S.hb)) ?_ ?_
  · rintro i v H' hi ⟨s, vs', qs', f, hl, hk, nd, fr⟩
    obtain ⟨t, q, st, rfl, est, ht, hs⟩ := hk3.at_ hi
    have hib : i < (x.B.vs).length := (List.getElem?_eq_some_iff.mp hi).1
    walk_at "zw"
    walk_at "z"
    refine ⟨rfl, ?_⟩
    walk_at "z"
    refine ⟨t, q, st, rfl, s _ _ ht, hs.stay (fun a xs e => s _ _ e) (fun a _ o e => s _ _ e), fun H5 t5 q5 s5 ft5 hs5 nd5 fr5 nt5 => ?_⟩
    have f5 := s5 _ _ f
    have tu := tup_stay (o := .lst (vs' ++ [.ref t5])) f5 (fun _ z => by cases z)
    have nq5 : ∀ a ∈ q5.muts, a ≠ L1 := fun a ha z => by have := fr5 a ha; rw [z, f] at this; cases this
    refine ⟨vs', f5, szlt (by omega), (s.trans s5).set hL1, vs' ++ [.ref t5], qs' ++ [q5], upd_same, by simp [hl], ?_, ?_, ?_⟩
    · rw [List.take_add_one, est]
      refine ((hk.stay (fun a xs e => s5 _ _ e) (fun a _ o e => s5 _ _ e)).snoc ft5 hs5).stay tu fun a ha o e => ?_
      rw [upd_ne ?_]
      · exact e
      · rw [List.flatMap_append, List.mem_append] at ha
        rcases ha with z | z
        · exact (fr a z).2
        · exact nq5 a (by simpa using z)
    · rw [List.flatMap_append, List.nodup_append]
      refine ⟨nd, by simpa using nd5, fun a ha b hb e => ?_⟩
      obtain ⟨o, eo, _⟩ := hk.there a ha
      have := fr5 b (by simpa using hb)
      rw [← e, eo] at this; cases this
    · intro a ha
      rw [List.flatMap_append, List.mem_append] at ha
      rcases ha with z | z
      · exact fr a z
      · exact ⟨s.free (fr5 a (by simpa using z)), nq5 a (by simpa using z)⟩
  rintro H4 ⟨s4, vs1, qs1, fL1, hl1, kp1, nq1, fq1⟩
  have hpl : vs1.length = x.past.length := by rw [hl1, hvl]
  rw [hvl, List.take_of_length_le (Nat.le_refl _)] at kp1
  have e4 := s4 _ _ e3
  walk_at "zw"
  walk_at "z"
  refine z_sfldR e4 T.cShop T.aShop_behind (by simp) ptS_behind ?_
  have S04 := S03.trans s4
  have S05 : Same H (upd H4 s' (.ins (He.ga K "Shop") B'.dx (fsShop (.ref x.p) (.ref q1.d) (.int x.now.com) (.ref q1.am) (.ref q1.b) (.ref q1.dd) (.ref L1) (.ref B'.la)))) := S04.set ns'
  have k5 : ∀ a, a ≠ s' → (upd H4 s' (.ins (He.ga K "Shop") B'.dx (fsShop (.ref x.p) (.ref q1.d) (.int x.now.com) (.ref q1.am) (.ref q1.b) (.ref q1.dd) (.ref L1) (.ref B'.la)))) a = H4 a := fun a ha => upd_ne ha
  have e5 : (upd H4 s' (.ins (He.ga K "Shop") B'.dx (fsShop (.ref x.p) (.ref q1.d) (.int x.now.com) (.ref q1.am) (.ref q1.b) (.ref q1.dd) (.ref L1) (.ref B'.la)))) s' = some (.ins (He.ga K "Shop") B'.dx (fsShop (.ref x.p) (.ref q1.d) (.int x.now.com) (.ref q1.am) (.ref q1.b) (.ref q1.dd) (.ref L1) (.ref B'.la))) := upd_same
  generalize upd H4 s' (.ins (He.ga K "Shop") B'.dx (fsShop (.ref x.p) (.ref q1.d) (.int x.now.com) (.ref q1.am) (.ref q1.b) (.ref q1.dd) (.ref L1) (.ref B'.la))) = H5 at S05 k5 e5 ⊢
  have h5 := Wd.same h S05
  have hk5 := hka.stay (H' := H5) (fun a xs e => S05 _ _ e) (fun a _ o e => S05 _ _ e)
  walk_at "z"
  refine z_fldR h5.S.ob T.cShop T.aShop_ahead lkS_ahead ?_
  refine ⟨x.B.la, rfl, ⟨_, SqL.of h5.S.ha⟩, fun L2 hL2 => ?_⟩
  refine lc_list (K := K) (a := x.B.la) (xs := x.B.ws) (fun i H' => Same H5 H' ∧ ∃ vs' qs', H' L2 = some (.lst vs') ∧ vs'.length = i ∧ KeptIn H' vs' qs' (x.ahead.take i) ∧ (qs'.flatMap SP.muts).Nodup ∧ ∀ a ∈ qs'.flatMap SP.muts, H5 a = none ∧ a ≠ L2)
    ⟨Same.new hL2, [], [], upd_same, rfl, KeptIn.nil, by simp, by simp⟩ (fun i H' _ h => SqL.of (h.1 _ _ h5.S.ha)) ?_ ?_
  · rintro i v H' hi ⟨s, vs', qs', f, hl, hk, nd, fr⟩
    obtain ⟨t, q, st, rfl, est, ht, hs⟩ := hk5.at_ hi
    have hib : i < (x.B.ws).length := (List.getElem?_eq_some_iff.mp hi).1
    walk_at "zw"
    walk_at "z"
    refine ⟨rfl, ?_⟩
    walk_at "z"
    refine ⟨t, q, st, rfl, s _ _ ht, hs.stay (fun a xs e => s _ _ e) (fun a _ o e => s _ _ e), fun H5 t5 q5 s5 ft5 hs5 nd5 fr5 nt5 => ?_⟩
    have f5 := s5 _ _ f
    have tu := tup_stay (o := .lst (vs' ++ [.ref t5])) f5 (fun _ z => by cases z)
    have nq5 : ∀ a ∈ q5.muts, a ≠ L2 := fun a ha z => by have := fr5 a ha; rw [z, f] at this; cases this
    refine ⟨vs', f5, szlt (by omega), (s.trans s5).set hL2, vs' ++ [.ref t5], qs' ++ [q5], upd_same, by simp [hl], ?_, ?_, ?_⟩
    · rw [List.take_add_one, est]
      refine ((hk.stay (fun a xs e => s5 _ _ e) (fun a _ o e => s5 _ _ e)).snoc ft5 hs5).stay tu fun a ha o e => ?_
      rw [upd_ne ?_]
      · exact e
      · rw [List.flatMap_append, List.mem_append] at ha
        rcases ha with z | z
        · exact (fr a z).2
        · exact nq5 a (by simpa using z)
    · rw [List.flatMap_append, List.nodup_append]
      refine ⟨nd, by simpa using nd5, fun a ha b hb e => ?_⟩
      obtain ⟨o, eo, _⟩ := hk.there a ha
      have := fr5 b (by simpa using hb)
      rw [← e, eo] at this; cases this
    · intro a ha
      rw [List.flatMap_append, List.mem_append] at ha
      rcases ha with z | z
      · exact fr a z
      · exact ⟨s.free (fr5 a (by simpa using z)), nq5 a (by simpa using z)⟩
  rintro H6 ⟨s6, vs2, qs2, fL2, hl2, kp2, nq2, fq2⟩
  rw [hwl, List.take_of_length_le (Nat.le_refl _)] at kp2
  have e6 := s6 _ _ e5
  walk_at "zw"
  walk_at "z"
  refine z_sfldR e6 T.cShop T.aShop_ahead (by simp) ptS_ahead ?_
  walk_at "z"
  have S07 : Same H (upd H6 s' (.ins (He.ga K "Shop") B'.dx (fsShop (.ref x.p) (.ref q1.d) (.int x.now.com) (.ref q1.am) (.ref q1.b) (.ref q1.dd) (.ref L1) (.ref L2)))) := (S05.trans s6).set ns'
  have k7 : ∀ a, a ≠ s' → (upd H6 s' (.ins (He.ga K "Shop") B'.dx (fsShop (.ref x.p) (.ref q1.d) (.int x.now.com) (.ref q1.am) (.ref q1.b) (.ref q1.dd) (.ref L1) (.ref L2)))) a = H6 a := fun a ha => upd_ne ha
  have e7 : (upd H6 s' (.ins (He.ga K "Shop") B'.dx (fsShop (.ref x.p) (.ref q1.d) (.int x.now.com) (.ref q1.am) (.ref q1.b) (.ref q1.dd) (.ref L1) (.ref L2)))) s' = some (.ins (He.ga K "Shop") B'.dx (fsShop (.ref x.p) (.ref q1.d) (.int x.now.com) (.ref q1.am) (.ref q1.b) (.ref q1.dd) (.ref L1) (.ref L2))) := upd_same
  generalize upd H6 s' (.ins (He.ga K "Shop") B'.dx (fsShop (.ref x.p) (.ref q1.d) (.int x.now.com) (.ref q1.am) (.ref q1.b) (.ref q1.dd) (.ref L1) (.ref L2))) = H7 at S07 k7 e7 ⊢
  have mv5 : ∀ a o, a ≠ s' → H5 a = some o → H7 a = some o := fun a o ha e => by rw [k7 a ha]; exact s6 _ _ e
  have mv45 : ∀ a o, a ≠ s' → H4 a = some o → H5 a = some o := fun a o ha e => by rw [k5 a ha]; exact e
  have mv24 : ∀ a o, a ≠ s' → H2 a = some o → H4 a = some o := fun a o ha e => s4 _ _ (by rw [k3 a ha]; exact e)
  have hcur : SnapAt H7 q1 x.now := hq1.stay (fun a xs e => mv5 _ _ (ne_of e hS2.ob (by intro z; cases z)) (mv45 _ _ (ne_of e hS2.ob (by intro z; cases z)) (mv24 _ _ (ne_of e hS2.ob (by intro z; cases z)) e)))
    (fun a ha o e => have n : a ≠ s' := fun z => q1s (z ▸ ha); mv5 _ _ n (mv45 _ _ n (mv24 _ _ n e)))
  have n1 : ∀ a ∈ qs1.flatMap SP.muts, a ≠ s' := fun a ha z => by have := (fq1 a ha).1; rw [z, e3] at this; cases this
  have n2 : ∀ a ∈ qs2.flatMap SP.muts, a ≠ s' := fun a ha z => by have := (fq2 a ha).1; rw [z, e5] at this; cases this
  have hkb7 : KeptIn H7 vs1 qs1 x.past := kp1.stay (fun a xs e => mv5 _ _ (ne_of e e4 (by intro z; cases z)) (mv45 _ _ (ne_of e e4 (by intro z; cases z)) e)) (fun a ha o e => mv5 _ _ (n1 a ha) (mv45 _ _ (n1 a ha) e))
  have hka7 : KeptIn H7 vs2 qs2 x.ahead := kp2.stay (fun a xs e => by rw [k7 a (ne_of e e6 (by intro z; cases z))]; exact e) (fun a ha o e => by rw [k7 a (n2 a ha)]; exact e)
  have L1s : L1 ≠ s' := fun z => by rw [z, e3] at hL1; cases hL1
  have L2s : L2 ≠ s' := fun z => by rw [z, e5] at hL2; cases hL2
  have L15 := mv45 _ _ L1s fL1
  have L12 : L1 ≠ L2 := ne_of_none L15 hL2
  have q13 : ∀ a ∈ q1.muts, ∃ o, H3 a = some o := fun a ha => by
    obtain ⟨o, e, _⟩ := hq1.there a ha
    exact ⟨o, by rw [k3 a (fun z => q1s (z ▸ ha))]; exact e⟩
  have q15 : ∀ a ∈ q1.muts, ∃ o, H5 a = some o := fun a ha => by
    obtain ⟨o, e⟩ := q13 a ha
    exact ⟨o, mv45 _ _ (fun z => q1s (z ▸ ha)) (s4 _ _ e)⟩
  have p15 : ∀ a ∈ qs1.flatMap SP.muts, ∃ o, H5 a = some o := fun a ha => by
    obtain ⟨o, e, _⟩ := kp1.there a ha
    exact ⟨o, mv45 _ _ (n1 a ha) e⟩
  have off5 : ∀ {a b : Addr} {G : Hp}, (∃ o, G a = some o) → G b = none → a ≠ b := fun h n z => by
    obtain ⟨o, e⟩ := h
    rw [z, n] at e; cases e
  have hnd : (SB.muts s' ⟨B'.dx, q1, L1, L2, qs1, qs2, vs1, vs2⟩).Nodup := by
    refine List.nodup_cons.mpr ⟨?_, List.nodup_cons.mpr ⟨?_, List.nodup_cons.mpr ⟨?_, List.nodup_append.mpr ⟨nd1, List.nodup_append.mpr ⟨nq1, nq2, ?_⟩, ?_⟩⟩⟩⟩
    · simp only [List.mem_cons, List.mem_append, not_or]
      exact ⟨L1s.symm, L2s.symm, q1s, fun z => n1 _ z rfl, fun z => n2 _ z rfl⟩
    · simp only [List.mem_cons, List.mem_append, not_or]
      exact ⟨L12, fun z => off5 (q13 _ z) hL1 rfl, fun z => (fq1 _ z).2 rfl, fun z => off5 ⟨_, L15⟩ (fq2 _ z).1 rfl⟩
    · simp only [List.mem_append, not_or]
      exact ⟨fun z => off5 (q15 _ z) hL2 rfl, fun z => off5 (p15 _ z) hL2 rfl, fun z => (fq2 _ z).2 rfl⟩
    · exact fun a ha b hb => off5 (p15 a ha) (fq2 b hb).1
    · intro a ha b hb
      rcases List.mem_append.mp hb with z | z
      · exact off5 (q13 a ha) (fq1 b z).1
      · exact off5 (q15 a ha) (fq2 b z).1
  have hfr : ∀ b ∈ SB.muts s' ⟨B'.dx, q1, L1, L2, qs1, qs2, vs1, vs2⟩, H b = none := fun b hb => by
    simp only [SB.muts, List.mem_cons, List.mem_append] at hb
    rcases hb with rfl | rfl | rfl | z | z | z
    · exact ns'
    · exact S03.free hL1
    · exact S05.free hL2
    · exact s1.free (fr1 b z)
    · exact S03.free (fq1 b z).1
    · exact S05.free (fq2 b z).1
  have hz : Ws.at ⟨x.p, x.A, x.D, x.ps, x.bs, s', ⟨B'.dx, q1, L1, L2, qs1, qs2, vs1, vs2⟩, x.now, x.past, x.ahead, x.k⟩ K H7 :=
    ⟨h.F.same S07, h.base, ⟨e7, hcur, by rw [k7 _ L1s]; exact s6 _ _ L15, hkb7, by rw [k7 _ L2s]; exact fL2, hka7, hnd⟩, fun a ha => h.F.nd (hfr a ha), h.ok, h.bl, h.kl, h.pl⟩
  refine q H7 _ S07 hz ⟨rfl, rfl, rfl, rfl, rfl, fun b hb hm => ?_⟩ rfl rfl rfl rfl hfr
  obtain ⟨o, e, _⟩ := h.S.there b hm
  rw [hfr b hb] at e; cases e
abbrev nlaw : List Str := ["_law_script", "_law_faces", "_law_shop", "_law_k", "_law_deed_here", "_law_lines", "_law_text", "_law_other"]
abbrev plaw : List Str := ["_law_script"]
theorem sclaw : FnScope nlaw plaw (defScope slaw) := ⟨rfl, rfl, rfl, by decide +kernel, rfl, by decide +kernel, by decide +kernel⟩
theorem ok_law {P : Program} {w : World} {K : PySem.W.Frag} {mg : Str → Option Value} {base : Heap} (T : Tx w K mg) {fd : FuncData} (F : FunD K "law" "law" (defArgs slaw) (defBody slaw) (defScope slaw) [] [] (He.ga K "law") fd) :
    FnOk P w K mg base (L2.CX P w) 22 (He.ga K "law") fd plaw (spLaw K) := by
  have GFaces___init__ := ok_Faces___init__ (P := P) (w := w) (base := base) T
  have GShop___init__ := ok_Shop___init__ (P := P) (w := w) (base := base) T
  have G_law_play := ok__law_play (P := P) (w := w) (base := base) T
  have Gpage := ok_page (P := P) (w := w) (base := base) T
  have Gread_page := ok_read_page (P := P) (w := w) (base := base) T
  have G_law_spoilt := ok__law_spoilt (P := P) (w := w) (base := base) T
  have GShop_undo := ok_Shop_undo (P := P) (w := w) (base := base) T
  have Gwritten := ok_written (P := P) (w := w) (base := base) T
  have G_law_like := ok__law_like (P := P) (w := w) (base := base) T 8
  have G_law_in_new_store := ok__law_in_new_store (P := P) (w := w) (base := base) T
  have G_law_cell := ok__law_cell (P := P) (w := w) (base := base) T
  have GShop_deeds := ok_Shop_deeds (P := P) (w := w) (base := base) T
  have G_law_unfit := ok__law_unfit (P := P) (w := w) (base := base) T
  have G_law_none_again := ok__law_none_again (P := P) (w := w) (base := base) T
  have GShop_look := ok_Shop_look (P := P) (w := w) (base := base) T
  have GShop_twin := ok_Shop_twin (P := P) (w := w) (base := base) T
  refine F.ok (CX := L2.CX P w) sclaw (by
    intro vs H Q E h
    repeat (first | (obtain ⟨h1, _⟩ := h; subst h1; rfl) | (obtain ⟨_, h⟩ := h))) (fun cdv A outer s H vs Q E hr h => ?_)
  have hu := hu_of hr
  have hu64 := hr.units
  refine ⟨_, (pss_cons (ps_set (i := 1) sclaw.nd rfl (Or.inl rfl) (q_make0 T.kFaces GFaces___init__ (hr.mono (by omega)) T.gFaces passX))
  (pss_cons (ps_set (i := 2) sclaw.nd rfl (Or.inl rfl) (q_make T.kShop GShop___init__ (hr.mono (by omega)) T.gShop passX (pa_cons (pv 1) pa_nil)))
  (pss_cons (ps_expr (q_call G_law_play (hr.mono (by omega)) T.g_law_play passX (pa_cons (pv 2) (pa_cons (pe_slice (k_sll K) (pv 0) (po_some pe_int) (po_some pe_int)) (pa_cons (pe_callB call_absU (by rfl) T.uabs (by decide +kernel) (pa_cons (q_call G_law_cell (hr.mono (by omega)) T.g_law_cell passX (pa_cons (pv 0) (pa_cons pe_int pa_nil))) pa_nil)) pa_nil)))))
  (pss_cons (ps_for (passes_of rfl) rfl (pi_range1 (by rfl) T.urange (pa_cons (pe_callB (call_min2 rfl) (by rfl) T.umin (by decide +kernel) (pa_cons (pe_callB (k_len K) (by rfl) T.ulen (by decide +kernel) (pa_cons (q_meth0 (pv 2) T.cShop T.mShop_deeds GShop_deeds (hr.mono (by omega)) passX) pa_nil)) (pa_cons (pe_op op_mod (pe_op op_fdivW (q_call G_law_cell (hr.mono (by omega)) T.g_law_cell passX (pa_cons (pv 0) (pa_cons pe_int pa_nil))) pe_int) pe_int) pa_nil))) pa_nil)) (pg_name (i := 3) sclaw.nd rfl (Or.inl rfl)) (pss_one (ps_expr (q_meth0 (pv 2) T.cShop T.mShop_undo GShop_undo (hr.mono (by omega)) passX))))
  (pss_cons (ps_setLc (i := 5) (own := [("_law_deed_here", 4)]) (g := gName 4) rfl sclaw.nd rfl rfl (sw_true rfl rfl rfl (by decide +kernel)) (k_pil K (q_meth0 (pv 2) T.cShop T.mShop_deeds GShop_deeds (hr.mono (by omega)) passX)) (blkOk_by (own := [("_law_deed_here", 4)]) (N := nlaw) (sc := defScope slaw) (by decide +kernel)) (fun _ _ _ _ _ => pg_name (i := 4) sclaw.nd rfl (Or.inl rfl)) (fun _ _ _ _ _ => pts_nil) (fun _ _ _ _ _ => (q_call Gwritten (hr.mono (by omega)) T.gwritten passL (pa_cons (pv 4) pa_nil))))
  (pss_cons (ps_set (i := 6) sclaw.nd rfl (Or.inl rfl) (q_call Gpage (hr.mono (by omega)) T.gpage passX (pa_cons (pv 2) pa_nil)))
  (pss_cons (ps_if (pt_not (pt_val (q_call G_law_like (hr.mono (by omega)) T.g_law_like passX (pa_cons (pv 6) (pa_cons (pe_join pe_str (pv 5)) pa_nil))))) (pss_one (ps_ret pe_bl)) pss_nil)
  (pss_cons (ps_set (i := 7) sclaw.nd rfl (Or.inl rfl) (q_call Gread_page (hr.mono (by omega)) T.gread_page passX (pa_cons (pv 1) (pa_cons (pv 6) pa_nil))))
  (pss_cons (ps_if (PW.pt (pw_or (pt_not (pt_val (q_call G_law_like (hr.mono (by omega)) T.g_law_like passX (pa_cons (q_meth0 (pv 7) T.cShop T.mShop_look GShop_look (hr.mono (by omega)) passX) (pa_cons (q_meth0 (pv 2) T.cShop T.mShop_look GShop_look (hr.mono (by omega)) passX) pa_nil))))) (pw_or1 (pt_not (pt_val (q_call G_law_like (hr.mono (by omega)) T.g_law_like passX (pa_cons (q_meth0 (pv 7) T.cShop T.mShop_deeds GShop_deeds (hr.mono (by omega)) passX) (pa_cons (q_meth0 (pv 2) T.cShop T.mShop_deeds GShop_deeds (hr.mono (by omega)) passX) pa_nil)))))))) (pss_one (ps_ret pe_bl)) pss_nil)
  (pss_cons (ps_if (pt_not (pt_val (q_call G_law_in_new_store (hr.mono (by omega)) T.g_law_in_new_store passX (pa_cons (pv 2) (pa_cons (pv 6) (pa_cons (pe_callB call_absU (by rfl) T.uabs (by decide +kernel) (pa_cons (q_call G_law_cell (hr.mono (by omega)) T.g_law_cell passX (pa_cons (pv 0) (pa_cons pe_int pa_nil))) pa_nil)) pa_nil)))))) (pss_one (ps_ret pe_bl)) pss_nil)
  (pss_cons (ps_if (PW.pt (pw_or (pt_not (pt_val (q_call G_law_like (hr.mono (by omega)) T.g_law_like passX (pa_cons (q_call Gpage (hr.mono (by omega)) T.gpage passX (pa_cons (q_meth0 (pv 7) T.cShop T.mShop_twin GShop_twin (hr.mono (by omega)) passX) pa_nil)) (pa_cons (pv 6) pa_nil))))) (pw_or1 (pt_not (pt_val (q_call G_law_unfit (hr.mono (by omega)) T.g_law_unfit passX (pa_cons (pv 5) (pa_cons (pe_op op_fdivW (q_call G_law_cell (hr.mono (by omega)) T.g_law_cell passX (pa_cons (pv 0) (pa_cons pe_int pa_nil))) pe_int) pa_nil)))))))) (pss_one (ps_ret pe_bl)) pss_nil)
  (pss_cons (ps_if (PW.pt (pw_or (pt_not (pt_val (q_call G_law_like (hr.mono (by omega)) T.g_law_like passX (pa_cons (q_call Gpage (hr.mono (by omega)) T.gpage passX (pa_cons (pv 7) pa_nil)) (pa_cons (pv 6) pa_nil))))) (pw_or1 (pt_not (pt_val (q_call G_law_none_again (hr.mono (by omega)) T.g_law_none_again passX (pa_cons (pv 7) pa_nil))))))) (pss_one (ps_ret pe_bl)) pss_nil)
  (pss_cons (ps_for (passes_of rfl) rfl (pi_range1 (by rfl) T.urange (pa_cons (pe_callB (k_len K) (by rfl) T.ulen (by decide +kernel) (pa_cons (pv 5) pa_nil)) pa_nil)) (pg_name (i := 3) sclaw.nd rfl (Or.inl rfl)) (pss_one (ps_expr (q_meth0 (pv 7) T.cShop T.mShop_undo GShop_undo (hr.mono (by omega)) passX))))
  (pss_cons (ps_if (PW.pt (pw_or (pt_not (pt_val (q_call G_law_like (hr.mono (by omega)) T.g_law_like passX (pa_cons (q_meth0 (pv 7) T.cShop T.mShop_look GShop_look (hr.mono (by omega)) passX) (pa_cons (pe_tup (pa_cons (pe_lst pa_nil) (pa_cons pe_int (pa_cons (pe_op op_mulU (pe_lst (pa_cons (pe_tup (pa_cons pe_int (pa_cons pe_int (pa_cons pe_int (pa_cons pe_int pa_nil))))) pa_nil)) pe_int) (pa_cons (pe_lst pa_nil) pa_nil))))) pa_nil))))) (pw_or1 (pt_not (pt_val (q_call G_law_like (hr.mono (by omega)) T.g_law_like passX (pa_cons (q_call Gpage (hr.mono (by omega)) T.gpage passX (pa_cons (pv 7) pa_nil)) (pa_cons pe_str pa_nil)))))))) (pss_one (ps_ret pe_bl)) pss_nil)
  (pss_one (ps_ret (q_call G_law_spoilt (hr.mono (by omega)) T.g_law_spoilt passX (pa_cons (pv 5) (pa_cons (q_call G_law_cell (hr.mono (by omega)) T.g_law_cell passX (pa_cons (pv 0) (pa_cons pe_int pa_nil))) pa_nil))))))))))))))))))), ?_⟩
  try dsimp only [cxOf]
  obtain ⟨a, ns, rfl, hs, hlen, hbits, q⟩ := h
  walk_at "z"
  refine z_mkFaces fun H1 p A D0 s1 hF0 hD0 => ?_
  walk_at "z"
  refine z_mkS ?_
  walk_at "z"
  refine RawS.of fun H2 s0 B0 s2 hS0 fr0 => ?_
  obtain ⟨x0, hx0, e0p, e0s, e0n, e0ps, e0pa, e0ah, e0k, foot0⟩ := Ws.new s1 hF0 hD0 s2 hS0 fr0
  subst e0p
  subst e0s
  walk_at "z"
  have hs2 := (s1.trans s2).seq hs
  obtain ⟨ms, ecut, hml⟩ := cut_36 hlen
  refine z_slL hs2 ecut ?_
  walk_at "zn"
  rename_i la nla H3 s3 fla
  walk_at "z"
  refine ⟨a, ns, 0, rfl, s3.seq hs2, ?_⟩
  walk_at "z"
  generalize (if cell ns 0 < 0 then -cell ns 0 else cell ns 0) = head
  have hx3 := hx0.same s3
  refine ⟨x0, la, ms, head, rfl, hx3, fla, Ws.at.freshM (x := x0) hx0 nla, by omega, Told37.new e0n e0pa e0ah, fun H4 y hy gy hky ty => ?_⟩
  have hky : y.k ≤ 36 := by omega
  have kp4 := ((s1.trans s2).trans s3).keep.trans gy.keep
  have hs4 := keep_seq kp4 foot0 hs
  have S4 : Same H H4 := fun b o e => kp4 b o e fun w => by rw [foot0 b w] at e; cases e
  have nw4 : ∀ b, y.foot b → H b = none := gy.news foot0 ((s1.trans s2).trans s3)
  rw [← gy.p, ← gy.s]
  walk_at "z"
  refine ⟨_, _, _, rfl, hy.S.ob, noS_deeds, ?_⟩
  walk_at "z"
  refine ⟨y, rfl, hy, fun H5 ld vd s5 nd fd dd => ?_⟩
  walk_at "z"
  refine z_lenL (SqL.of fd) ?_
  walk_at "z"
  refine ⟨a, ns, 0, rfl, s5.seq hs4, ?_⟩
  walk_at "z"
  refine z_I (divW (by decide) (by decide)) ?_
  walk_at "z"
  refine z_I (by decide) ?_
  walk_at "z"
  have hvl : vd.length = y.past.length := by rw [dd.len, List.length_map, ty.n]
  have c0 := Int.emod_nonneg (cell ns 0 / 11) (show (4 : Int) ≠ 0 by decide)
  have c1 := Int.emod_lt_of_pos (cell ns 0 / 11) (show (0 : Int) < 4 by decide)
  refine ⟨_, _, rfl, ?_⟩
  walk_at "z"
  obtain ⟨m, em, hm⟩ : ∃ m : Nat, (if cell ns 0 / 11 % 4 < ((vd.length : Nat) : Int) then cell ns 0 / 11 % 4 else ((vd.length : Nat) : Int)) = (m : Int) ∧ m ≤ y.past.length := by
    split
    · exact ⟨(cell ns 0 / 11 % 4).toNat, by omega, by omega⟩
    · exact ⟨vd.length, rfl, by omega⟩
  rw [em]
  have hpl := hy.pl
  refine ⟨_, rfl, by omega, by omega, ?_⟩
  have hy5 := Wd.same hy s5
  have S5 := S4.trans s5
  refine for_range (lo := 0) (n := m) (fun i σ H' => ∃ z : Ws, ∃ y3, σ = [some (.ref a), some (.ref z.p), some (.ref z.s), y3, none, none, none, none] ∧ z.at K H' ∧ Gone H5 y H' z ∧ Told37 z ∧ z.past.length + i = y.past.length ∧ z.k = y.k) ⟨y, _, rfl, hy5, Gone.refl (Same.refl _), ty, rfl, rfl⟩ ?_ ?_
  · rintro i σ H6 hi ⟨z, y3, rfl, hz, gz, tz, ez, ekz⟩
    walk_at "z"
    refine z_methR hz.S.ob noS_undo ?_
    walk_at "z"
    have ta := tz.a
    have hkl := hz.kl
    refine ⟨z, rfl, hz, by omega, fun no _ _ => absurd (congrArg List.length no) (by rw [List.length_nil]; omega), fun pst st ep H9 z9 hz9 g9 n9 p9 a9 ps9 k9 => ?_⟩
    walk_at "z"
    refine ⟨z9, _, by rw [g9.p, g9.s], hz9, gz.trans g9, tz.undo ep n9 p9 a9 g9.ext k9, ?_, k9.trans ekz⟩
    rw [ep, List.length_append] at ez
    rw [p9]
    simp at ez
    omega
  rintro σ H6 ⟨z, y3, rfl, hz, gz, tz, _, ekz⟩
  have S6 : Same H H6 := gz.same0 nw4 S5
  have nw6 : ∀ b, z.foot b → H b = none := gz.news nw4 S5
  have hist := tz.h _ (.inl rfl)
  have hdl : z.now.deeds.length ≤ 36 := by have := (hz.ok _ (.inl rfl)).dl; omega
  have hrl : z.now.rods.length ≤ 36 := by have := (hz.ok _ (.inl rfl)).rl; omega
  clear hy5 hy gz hx3 hx0 gy
  walk_at "z"
  refine z_methR hz.S.ob noS_deeds ?_
  walk_at "z"
  refine ⟨z, rfl, hz, fun H7 l vs s7 nl fl dl => ?_⟩
  refine ⟨l, rfl, ⟨_, SqL.of fl⟩, fun L hL => ?_⟩
  have hvl : vs.length = z.now.deeds.length := by rw [dl.len, List.length_map]
  refine lc_list (K := K) (a := l) (xs := vs) (fun i H' => Same H7 H' ∧ H' L = some (.lst (((z.now.deeds.take i).map Deed.line).map V.str))) ⟨Same.new hL, upd_same⟩ (fun i H' _ h => SqL.of (h.1 _ _ fl)) ?_ ?_
  · rintro i v H' hi ⟨s8, f8⟩
    obtain ⟨d, e1, e2⟩ := dl.get hi
    rw [List.getElem?_map] at e1
    cases ed : z.now.deeds[i]? with
    | none => rw [ed] at e1; cases e1
    | some dd2 =>
      rw [ed] at e1
      obtain rfl := Option.some.inj e1
      have hok := hist.deeds dd2 (List.mem_of_getElem? ed)
      have hil : i < z.now.deeds.length := (List.getElem?_eq_some_iff.mp ed).1
      cases e2 with
      | @tup t xs _ ht ha =>
        walk_at "zw"
        walk_at "z"
        refine ⟨rfl, ?_⟩
        walk_at "z"
        refine ⟨t, xs, dd2.items, rfl, s8 _ _ ht, dvAll_same s8 ha, items_is dd2, fun hb => (by rw [hok] at hb; cases hb), fun dd' e hb H3' s9 => ?_⟩
        obtain rfl := items_inj e
        refine ⟨_, s9 _ _ f8, szlt (by simp; omega), (s8.trans s9).set hL, ?_⟩
        rw [upd_same, List.take_add_one, ed]
        simp
  rintro H8 ⟨s8, f8⟩
  rw [hvl, List.take_of_length_le (Nat.le_refl _)] at f8
  have s68 := s7.trans s8
  have S8 := S6.trans s68
  have hz8 := Wd.same hz s68
  have nL6 : H6 L = none := s7.free hL
  have oL8 : Off z L := Off.new (x := z) hz nL6
  walk_at "zw"
  walk_at "z"
  refine ⟨z, rfl, hz8, hist.deeds, by omega, fun H9 s9 => ?_⟩
  have hz9 := Wd.same hz8 s9
  have S9 := S8.trans s9
  have f9 := s9 _ _ f8
  walk_at "z"
  refine z_m1 ?_
  walk_at "z"
  refine ⟨⟨_, rfl⟩, ?_⟩
  walk_at "z"
  have hbd : ((z.now.deeds.map Deed.line).map (·.length)).sum + (z.now.deeds.map Deed.line).length * ("\n" : Str).length ≤ 200 * 100 + 200 := by
    refine join_bound (n := 100) (m := 200) (by rw [List.length_map]; omega) (fun y hy => ?_) (by decide +kernel)
    obtain ⟨dd, h, rfl⟩ := List.mem_map.mp hy
    exact line_len (hist.deeds dd h)
  refine ⟨_, _, z.now.deeds.map Deed.line, rfl, rfl, .inl (SqL.of f9), Nat.le_trans hbd (by decide), ?_⟩
  walk_at "z"
  refine ⟨_, _, .str (pageT z.now.deeds), rfl, .str _, .str _, by simp only [dpt]; decide, fun HA sA => ?_⟩
  have hzA := Wd.same hz9 sA
  have SA := S9.trans sA
  have fA := sA _ _ f9
  walk_at "z"
  have el : linesOf (pageT z.now.deeds) = z.now.deeds.map Deed.line := lines_page hist.deeds
  have nd0 := hz.F.inv.nd
  have eline : ∀ u ∈ linesOf (pageT z.now.deeds), u.length ≤ 100 := fun u hu => by
    rw [el] at hu
    obtain ⟨dd, hd, rfl⟩ := List.mem_map.mp hu
    exact line_len (hist.deeds dd hd)
  refine ⟨z.p, z.A, z.D, z.ps, z.bs, _, z.k, rfl, hzA.F, hzA.base, hzA.bl, by rw [el, List.length_map]; omega, fun u hu => Nat.le_trans (eline u hu) (by decide), Nat.le_trans str_len (Nat.le_trans hbd (by decide)), fun HB w hw fr hk hpn hah tw hl => ?_, fun HB w d i u hw fr hk hist2 hu hl bz hd => ?_⟩
  rotate_left
  · exfalso
    rw [el] at hu hl
    rw [List.getElem?_map] at hu
    cases ed : z.now.deeds[i]? with
    | none => rw [ed] at hu; cases hu
    | some dd =>
      rw [ed] at hu
      obtain rfl := Option.some.inj hu
      exact good_line hist nd0 hist2 hw.F.inv.nd ed hl bz
  rw [el] at hl
  rw [el, List.length_map] at hk
  have edd : w.now.deeds = z.now.deeds := hl.one (lines_deeds hist.deeds)
  obtain ⟨qs, eps⟩ := fr.ext
  have hist2 : Hist w.ps z.now := by rw [eps]; exact hist.app
  have enow : w.now = z.now := (tw.h _ (.inl rfl)).one hist2 edd
  have SB : Same H HB := fun b o e => fr.keep b o (SA b o e) fun x => by rw [nw6 b (.inl x)] at e; cases e
  have fB : HB L = some (.lst ((z.now.deeds.map Deed.line).map V.str)) := fr.keep _ _ fA fun x => oL8.1 (hz.F.df _ x)
  have oLw : Off w L := ⟨fun x => (fr.D L x).elim oL8.1 fun x => (by rw [fA] at x; cases x), fun x => (by rw [fr.m L x] at fA; cases fA)⟩
  obtain ⟨z2, hz2, two, ez2s, ez2B, ez2n, ez2p, ez2a, ez2k⟩ := fr.other hzA hw
  have nww : ∀ b, w.foot b → H b = none := fun b hb => by
    rcases hb with hb | hb
    · rw [fr.eA] at hb; exact nw6 b (.inl hb)
    · exact SA.free (fr.m b hb)
  have ez2ps : z2.ps = w.ps := two.ps.symm
  have ez2pp : z2.p = z.p := two.p.symm.trans fr.ep
  clear hzA hz9 hz8 f9 f8
  rw [← ez2s]
  have hrl2 : z2.now.rods.length ≤ 36 := by rw [ez2n]; exact hrl
  have hdl2 : z2.now.deeds.length ≤ 36 := by rw [ez2n]; exact hdl
  have enow2 : w.now = z2.now := by rw [enow, ez2n]
  walk_at "z"
  refine z_methR hw.S.ob noS_look ?_
  walk_at "z"
  refine ⟨w, rfl, hw, by rw [enow]; omega, fun HC t1 r1 g1 b1 vr1 vg1 sC lk1 _ _ _ _ => ?_⟩
  have hz2C := Wd.same hz2 sC
  walk_at "z"
  refine z_methR hz2C.S.ob noS_look ?_
  walk_at "z"
  refine ⟨z2, rfl, hz2C, by omega, fun HD t2 r2 g2 b2 vr2 vg2 sD lk2 _ _ _ _ => ?_⟩
  have lk1D := (lk1.same sD).dv
  have lk2D := lk2.dv
  rw [enow2, ← ez2ps] at lk1D
  walk_at "z"
  refine ⟨_, _, lookD z2.ps z2.now, rfl, lk1D, lk2D, dpt_look _ _, fun HE sE => ?_⟩
  have sBE := sC.trans (sD.trans sE)
  have hwE := Wd.same hw sBE
  have hz2E := Wd.same hz2 sBE
  walk_at "z"
  refine z_methR hwE.S.ob noS_deeds ?_
  walk_at "z"
  refine ⟨w, rfl, hwE, fun HF l3 v3 sF n3 f3 d3 => ?_⟩
  have hz2F := Wd.same hz2E sF
  walk_at "z"
  refine z_methR hz2F.S.ob noS_deeds ?_
  walk_at "z"
  refine ⟨z2, rfl, hz2F, fun HG l4 v4 sG n4 f4 d4 => ?_⟩
  have d3' := dvAll_same sG d3
  rw [enow2] at d3'
  have hd8 := dpt_deeds z2.now.deeds
  walk_at "z"
  refine ⟨_, _, .list (z2.now.deeds.map Deed.data), rfl, .lst (sG _ _ f3) d3', .lst f4 d4, by simp only [dpt]; omega, fun HI sI => ?_⟩
  have sBI := sBE.trans (sF.trans (sG.trans sI))
  have SI := SB.trans sBI
  have hz2I := Wd.same hz2 sBI
  have hwI := Wd.same hw sBI
  clear hz2F hz2E hwE hz2C lk1D lk2D d3' d3 d4 f3 f4
  walk_at "z"
  refine ⟨a, ns, 1, rfl, SI.seq hs, ?_⟩
  walk_at "z"
  obtain ⟨c, ec⟩ : ∃ c : Int, c = cell ns 1 := ⟨_, rfl⟩
  rw [← ec]
  have cb : c.natAbs < 2 ^ Builtin.Int.intBits c ∧ Builtin.Int.intBits c ≤ 2000000 := by
    refine ⟨bits_lt c, ?_⟩
    rw [ec]
    unfold cell
    rw [List.getD_eq_getElem?_getD]
    cases e1 : ns[1]? with
    | none => decide
    | some v => exact Nat.le_trans (hbits v (List.mem_of_getElem? e1)) (by decide)
  obtain ⟨ca, eca⟩ : ∃ ca : Int, ca = (if c < 0 then -c else c) := ⟨_, rfl⟩
  rw [← eca]
  refine ⟨z2, ca, by rw [ez2n]; rfl, hz2I, by rw [ez2ps, ez2n]; exact hist2, by omega, by omega, by rw [eca]; split <;> omega, ⟨Builtin.Int.intBits c, by rw [show ca.natAbs = c.natAbs by rw [eca]; split <;> omega]; exact cb.1, cb.2⟩, fun HJ sJ => ?_⟩
  have hwJ := Wd.same hwI sJ
  have SJ := SI.trans sJ
  have fJ := sJ _ _ (sBI _ _ fB)
  walk_at "z"
  have tka := tw.a
  have hwk := hw.kl
  refine z_methR hwJ.S.ob noS_twin ?_
  walk_at "z"
  refine ⟨w, rfl, hwJ, by omega, fun HK v sK hvK _ evn _ _ _ _ => ?_⟩
  walk_at "z"
  refine ⟨v, rfl, hvK, by rw [evn, enow]; exact hist.deeds, by rw [evn, enow]; omega, fun HL sL => ?_⟩
  rw [evn, enow]
  walk_at "z"
  refine ⟨_, _, .str (pageT z.now.deeds), rfl, .str _, .str _, by simp only [dpt]; decide, fun HM sM => ?_⟩
  have sJM := sK.trans (sL.trans sM)
  have SM := SJ.trans sJM
  have hwM := Wd.same hwJ sJM
  have fM := sJM _ _ fJ
  clear hvK
  walk_at "z"
  refine ⟨a, ns, 1, rfl, SM.seq hs, ?_⟩
  walk_at "z"
  rw [← ec]
  refine z_I (divW (by decide) (by decide)) ?_
  walk_at "z"
  refine ⟨L, c / 5, z.now.deeds, rfl, hist.deeds, by omega, fM, fun HN sN => ?_⟩
  have SN := SM.trans sN
  have hwN := Wd.same hwM sN
  have fN := sN _ _ fM
  walk_at "z"
  refine ⟨w, rfl, hwN, by rw [enow]; exact hist.deeds, by rw [enow]; omega, fun HO sO => ?_⟩
  rw [enow]
  walk_at "z"
  refine ⟨_, _, .str (pageT z.now.deeds), rfl, .str _, .str _, by simp only [dpt]; decide, fun HP sP => ?_⟩
  have sNP := sO.trans sP
  have SP := SN.trans sNP
  have hwP := Wd.same hwN sNP
  have fP := sNP _ _ fN
  walk_at "z"
  refine ⟨w, rfl, hwP, tw.a, hah, fun HQ sQ => ?_⟩
  have SQ := SP.trans sQ
  have hwQ := Wd.same hwP sQ
  have fQ := sQ _ _ fP
  walk_at "z"
  refine z_lenL (SqL.of fQ) ?_
  rw [List.length_map, List.length_map]
  walk_at "z"
  refine ⟨_, rfl, by omega, by omega, ?_⟩
  rw [Int.toNat_natCast]
  refine for_range (lo := 0) (n := z.now.deeds.length) (fun i σ H' => ∃ v : Ws, ∃ y3, σ = [some (.ref a), some (.ref z.p), some (.ref z2.s), y3, none, some (.ref L), some (.str (pageT z.now.deeds)), some (.ref v.s)] ∧ v.at K H' ∧ Gone HQ w H' v ∧ Told37 v ∧ v.past.length + i = w.past.length) ⟨w, _, rfl, hwQ, Gone.refl (Same.refl _), tw, rfl⟩ ?_ ?_
  · rintro i σ H' hi ⟨v, y3, rfl, hv, gv, tv, ev⟩
    walk_at "z"
    refine z_methR hv.S.ob noS_undo ?_
    walk_at "z"
    have ta := tv.a
    have hkl := hv.kl
    rw [enow] at hpn
    refine ⟨v, rfl, hv, by omega, fun no _ _ => absurd (congrArg List.length no) (by rw [List.length_nil]; omega), fun pst st ep H9 z9 hz9 g9 n9 p9 a9 ps9 k9 => ?_⟩
    walk_at "z"
    refine ⟨z9, _, by rw [g9.s], hz9, gv.trans g9, tv.undo ep n9 p9 a9 g9.ext k9, ?_⟩
    rw [ep, List.length_append] at ev
    rw [p9]
    simp at ev
    omega
  rintro σ HR ⟨v, y3, rfl, hv, gv, tv, ev⟩
  have SR : Same H HR := gv.same0 nww SQ
  have fR := gv.keep _ _ fQ (Off.foot (x := w) oLw hwQ)
  rw [enow] at hpn
  have env : v.now = noneYet := (tv.h _ (.inl rfl)).nil (by have := tv.n; omega)
  walk_at "z"
  refine z_methR hv.S.ob noS_look ?_
  walk_at "z"
  refine ⟨v, rfl, hv, by rw [env]; decide, fun HS t5 r5 g5 b5 vr5 vg5 sS lk5 _ _ _ _ => ?_⟩
  have lk5 := lk5.dv
  rw [env] at lk5
  walk_at "z"
  walk_at "zt"
  rename_i l6 n6 HT sT f6
  walk_at "z"
  walk_at "zt"
  rename_i l7 n7 HU sU f7
  walk_at "z"
  walk_at "zt"
  rename_i l8 n8 HV sV f8
  walk_at "z"
  refine .inr ⟨l8, 10, [.ref l7], rfl, rfl, f8, by decide, by decide, sz1000 (show 1 * 10 ≤ 100000 by decide), ?_⟩
  walk_at "zn"
  rename_i l9 n9 HW sW f9
  walk_at "z"
  walk_at "zt"
  rename_i l10 n10 HX sX f10
  walk_at "z"
  walk_at "zt"
  rename_i l11 n11 HY sY f11
  walk_at "z"
  have sVY := sW.trans (sX.trans sY)
  have sSY := sT.trans (sU.trans (sV.trans sVY))
  have d7 : Dv HY (.ref l7) (tupI [0, 0, 0, 0]) := .tup (sVY _ _ (sV _ _ f7)) (.cons (.int _) (.cons (.int _) (.cons (.int _) (.cons (.int _) .nil))))
  have drep : ∀ n : Nat, DvAll HY (List.replicate n (.ref l7)) (List.replicate n (tupI [0, 0, 0, 0])) := fun n => by
    induction n with
    | zero => exact .nil
    | succ n ih => exact .cons d7 ih
  have d11 : Dv HY (.ref l11) (lookD v.ps noneYet) := .tup f11 (.cons (.lst ((sU.trans (sV.trans sVY)) _ _ f6) .nil) (.cons (.int _) (.cons (.lst ((sX.trans sY) _ _ f9) (drep 10)) (.cons (.lst (sY _ _ f10) .nil) .nil))))
  refine ⟨_, _, lookD v.ps noneYet, rfl, dv_same sSY lk5, d11, dpt_look _ _, fun HZ sZ => ?_⟩
  have sRZ := sS.trans (sSY.trans sZ)
  have hvZ := Wd.same hv sRZ
  have SZ := SR.trans sRZ
  have fZ := sRZ _ _ fR
  walk_at "z"
  refine ⟨v, rfl, hvZ, by rw [env]; simp [noneYet], by rw [env]; simp [noneYet], fun HA1 sA1 => ?_⟩
  rw [env]
  have ep0 : pageT noneYet.deeds = "" := by decide +kernel
  rw [ep0]
  walk_at "z"
  refine ⟨_, _, .str "", rfl, .str _, .str _, by simp only [dpt]; decide, fun HB1 sB1 => ?_⟩
  have sZB := sA1.trans sB1
  walk_at "z"
  refine ⟨a, ns, 1, rfl, (SZ.trans sZB).seq hs, ?_⟩
  walk_at "z"
  rw [← ec]
  refine ⟨L, c, z.ps, z.now, rfl, hist, nd0, by omega, sZB _ _ fZ, fun HC1 sC1 => ?_⟩
  walk_at "z"
  exact q _
theorem law_walk : PySem.W.WalkO (PySem.W.view hR.prog [62]) hloose (PySem.W.XL (PySem.W.view hR.prog [62]) []) hk.says PySem.Challenge.rw_murrine_k37_whole_pages_are_read.row.toRowW (HandSHeadRun.topDef hR.prog 62) [] (fun f vs => PySem.call f vs) := by
  refine Att.attach_callB (l := PySem.Challenge.rw_murrine_k37_whole_pages_are_read) (n := 63) rfl (by kernel_rfl) fun w s₀ s₁ mg mb fa o pm cd doc a vs ns G Y ho hd hcd hmg0 hobj hints hlen hbits hg => ?_
  obtain ⟨K, KX, c⟩ := Y
  have T : Tx w K mg := tx_of KX G.T.g c
  have hmg : mg ("law" : Str) = some (.ref fa) := by
    have e : (HandSHeadRun.topDef hR.prog 62).name = ("law" : Str) := by kernel_rfl
    rw [← e]
    exact hmg0
  have ef : fa = He.ga K "law" := Value.ref.inj (Option.some.inj (hmg.symm.trans T.glaw))
  subst ef
  obtain ⟨fd, F⟩ := T.flaw
  have hb : ∀ (s : Shared) (v : Value), BindsTo s fd ⟨[v], []⟩ [("_law_script", v)] := fun s v => FunD.bindsA (ps := ["_law_script"]) F (fun _ _ _ _ _ _ us hl => match us, hl with | [_], _ => rfl) s [v] rfl
  refine law_call KX G.T.g G.T.b G.T.builtins G.T.nolimit hg hobj hints (Nat.le_trans hlen (by decide)) (k := 22) (CX := L2.CX PySem.Challenge.rw_murrine_k37_whole_pages_are_read.prog w) (sp := spLaw K) ⟨rfl, by decide, by decide⟩ (fun base b1 b2 => ok_law T F) hb (fun H hO hS => ⟨a, ns, rfl, hS, hlen, hbits, fun _ => rfl⟩) (fun H e s' h => ?_)
  obtain ⟨_, _, _, _, _, _, _, _, _, _, _, _, z⟩ := h
  exact z
end Mur
open PySem PySem.W PySem.Calls PyProof.Rows
theorem PySem.Challenge.cw_murrine_k37_whole_pages_are_read_holds : PySem.Challenge.rw_murrine_k37_whole_pages_are_read.Holds := by
  w_on; o_law
  refine HandSHeadRun.head_any (r := OpenLaw.row PySem.Challenge.rw_murrine_k37_whole_pages_are_read) (q := view (OpenLaw.row PySem.Challenge.rw_murrine_k37_whole_pages_are_read).prog [62]) (H := Mur.hk) (ob := Mur.hob) (M := 8000) (loose := Mur.hloose) (d := HandSHeadRun.topDef (OpenLaw.row PySem.Challenge.rw_murrine_k37_whole_pages_are_read).prog 62) (kwd := []) Mur.hob_eq
    (by kernel_rfl) (fun s => by kernel_rfl) Mur.hrun (by kernel_rfl) (by kernel_rfl) (by kernel_rfl) (by rfl) (by first | assumption | decide +kernel) (by decide +kernel) ⟨rfl, rfl, rfl, rfl, rfl, by decide +kernel⟩ ?hw ?hc
  case hw => w_witness2
  case hc => exact Mur.law_walk
#print axioms PySem.Challenge.cw_murrine_k37_whole_pages_are_read_holds
