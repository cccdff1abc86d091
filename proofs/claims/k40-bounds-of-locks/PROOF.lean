import PyProof.Rows.All
import Wide.All
import OpenK.AllK
import Wide.FinOn
import HandS.ForMost
import HandS.ForExc
import HandS.ExcInit
import HandS.IsInst
import HandS.Style
import HandS.Property
import HandS.Wide
import HandS.Defaults
import HandS.EndBits
import HandS.Flow
import HandS.More
import HandS.Words
import HandS.WordsExc
import HandS.Head0
import HandS.Head1
import HandS.Head2
import HandS.HeadEnd
import HandS.HeadHook1
import HandS.HeadHook2
import HandS.HeadHook3
import HandS.HeadHook4
import HandS.HeadWalk
import HandS.HeadNt
import PySem.Challenge.RW_loginstacks_k40_whole_bounds_of_locks
set_option Elab.async false
set_option linter.all false
set_option maxRecDepth 100000
set_option maxHeartbeats 4000000
/-! The engine: each reading's introduction, step by step. -/
namespace G
open PySem PySem.Spec L2
section
variable {σ : St} {H : Hp} {Q : VK} {v x y z : V} {i : Nat} {ta tb tc te tv : TE} {tt tu : TT} {K : PySem.W.Frag} {nx bk ct : St → Hp → Prop} {rt : VK} {t u : TS}
/-! ### expressions -/
theorem i_var (h : σ[i]? = some (some v)) (q : Q v H) : tVar i σ H Q := ⟨v, h, q⟩
theorem i_c (q : Q v H) : tC v σ H Q := q
theorem i_op {r : R2} (h : ta σ H fun x H1 => tb σ H1 fun y H2 => r x y H2 Q) : tOp r ta tb σ H Q := h
theorem i_un {r : V → Hp → VK → Prop} (h : ta σ H fun x H1 => r x H1 Q) : tUn r ta σ H Q := h
theorem i_I0 {g : Int → Int → V} {a b : Int} (q : Q (g a b) H) : rI0 g (.int a) (.int b) H Q := ⟨a, b, rfl, rfl, q⟩
theorem i_I {C : Int → Int → Prop} {g : Int → Int → V} {a b : Int} (c : C a b) (q : Q (g a b) H) : rI C g (.int a) (.int b) H Q := ⟨a, b, rfl, rfl, c, q⟩
theorem i_U {g : Int → V} {a : Int} (q : Q (g a) H) : rU g (.int a) H Q := ⟨a, rfl, q⟩
theorem i_eq (s : scal x y = true) (q : Q (.bl (decide (x = y))) H) : rEq x y H Q := ⟨s, q⟩
theorem i_ne (s : scal x y = true) (q : Q (.bl (!decide (x = y))) H) : rNe x y H Q := ⟨s, q⟩
theorem i_nil {Q : List V → Hp → Prop} (q : Q [] H) : tNil σ H Q := q
theorem i_cons {tr : TA} {Q : List V → Hp → Prop} (h : ta σ H fun x H1 => tr σ H1 fun xs H2 => Q (x :: xs) H2) : tCons ta tr σ H Q := h
theorem i_tup {t : TA} (h : t σ H fun xs H1 => xs.length ≤ sizeLine ∧ ∀ p, H1 p = none → Q (.ref p) (upd H1 p (.tup xs))) : tTup t σ H Q := h
theorem i_lst {t : TA} (h : t σ H fun xs H1 => xs.length ≤ sizeLine ∧ ∀ p, H1 p = none → Q (.ref p) (upd H1 p (.lst xs))) : tLst t σ H Q := h
theorem i_and {A B : Prop} (a : A) (b : B) : A ∧ B := ⟨a, b⟩
theorem i_call {sp : Sp} {dvs : List V} {E : XK} {t : TA} (h : t σ H fun vs H1 => sp (vs ++ dvs) H1 Q E) : tCall sp dvs E t σ H Q := h
theorem i_cb {r : List V → Hp → VK → Prop} {t : TA} (h : t σ H fun vs H1 => r vs H1 Q) : tCB r t σ H Q := h
theorem i_if (h : tt σ H fun c H1 => if c = true then ta σ H1 Q else tb σ H1 Q) : tIf tt ta tb σ H Q := h
theorem i_andV (h : ta σ H fun x H1 => ∃ c, x = .bl c ∧ if c = true then tb σ H1 Q else Q (.bl false) H1) : tAndV ta tb σ H Q := h
theorem i_orV (h : ta σ H fun x H1 => ∃ c, x = .bl c ∧ if c = true then Q (.bl true) H1 else tb σ H1 Q) : tOrV ta tb σ H Q := h
theorem i_notV (h : ta σ H fun x H1 => ∃ c, x = .bl c ∧ Q (.bl (!c)) H1) : tNotV ta σ H Q := h
theorem i_chain {r r' : R2} (h : ta σ H fun x H1 => tb σ H1 fun y H2 => r x y H2 fun z H3 => ∃ k, z = .bl k ∧ (if k = true then tc σ H3 fun w' H4 => r' y w' H4 Q else Q (.bl false) H3)) : tChain r r' ta tb tc σ H Q := h
theorem i_exb {P : Bool → Prop} {b : Bool} (q : P b) : ∃ k, V.bl b = V.bl k ∧ P k := ⟨b, rfl, q⟩
theorem i_fld {f : Str} (h : ta σ H fun x H1 => ∃ a C dx fs v, x = .ref a ∧ H1 a = some (.ins C dx fs) ∧ Cls K C ∧ NoAttr K C f ∧ fs.lookup f = some v ∧ Q v H1) : tFld K ta f σ H Q := h
theorem i_exfld {a C dx : Addr} {f : Str} {fs : List (Str × V)} {R : V → Prop} (h : H a = some (.ins C dx fs)) (c : Cls K C) (n : NoAttr K C f) (l : fs.lookup f = some v) (q : R v) :
    ∃ a' C dx fs v, V.ref a = V.ref a' ∧ H a' = some (.ins C dx fs) ∧ Cls K C ∧ NoAttr K C f ∧ fs.lookup f = some v ∧ R v := ⟨a, C, dx, fs, v, rfl, h, c, n, l, q⟩
theorem e_len {α : Type} {xs : List α} {B : Prop} (h : Nat.ble xs.length 1000 = true) (b : B) : xs.length ≤ sizeLine ∧ B := ⟨Nat.le_trans (Nat.le_of_ble_eq_true h) (by decide), b⟩
theorem i_prop {C : Addr} {sp : Sp} {dvs : List V} {E : XK} (h : ta σ H fun x H1 => ∃ a dx fs, x = .ref a ∧ H1 a = some (.ins C dx fs) ∧ sp (.ref a :: dvs) H1 Q E) : tProp C sp dvs E ta σ H Q := h
theorem i_ixL {p : Addr} {xs : List V} {a : Int} (h : SqL K H p xs) (e : atI xs a = some v) (q : Q v H) : rIx K (.ref p) (.int a) H Q := .inl ⟨p, xs, a, v, rfl, rfl, h, e, q⟩
theorem i_ixT {p : Addr} {xs : List V} {a : Int} (h : SqT K H p xs) (e : atI xs a = some v) (q : Q v H) : rIx K (.ref p) (.int a) H Q := .inr (.inl ⟨p, xs, a, v, rfl, rfl, h, e, q⟩)
theorem i_ixS {s : Str} {a : Int} {c : Nat} (h : s.length ≤ sizeLine) (e : atI s.cps.toList a = some c) (q : Q (.str ⟨#[c]⟩) H) : rIx K (.str s) (.int a) H Q := .inr (.inr ⟨s, a, c, rfl, rfl, h, e, q⟩)
/-! ### tests -/
theorem i_test {Q : Bool → Hp → Prop} (h : te σ H fun x H' => ∃ k, x = .bl k ∧ Q k H') : tTest te σ H Q := h
theorem i_B {Q : Bool → Hp → Prop} (h : te σ H fun x H' => ∃ k, x = .bl k ∧ Q k H') : tB te σ H Q := h
theorem i_tand {Q : Bool → Hp → Prop} (h : tt σ H fun c H1 => if c = true then tu σ H1 Q else Q false H1) : tAnd tt tu σ H Q := h
theorem i_tor {Q : Bool → Hp → Prop} (h : tt σ H fun c H1 => if c = true then Q true H1 else tu σ H1 Q) : tOr tt tu σ H Q := h
theorem i_tnot {Q : Bool → Hp → Prop} (h : tt σ H fun c H1 => Q (!c) H1) : tNot tt σ H Q := h
theorem i_yes {Q : Bool → Hp → Prop} (q : Q true H) : tYes σ H Q := q
/-! ### statements -/
theorem s_seq (h : t ⟨u ⟨nx, rt, bk, ct⟩, rt, bk, ct⟩ σ H) : tSeq t u ⟨nx, rt, bk, ct⟩ σ H := h
theorem s_next (h : nx σ H) : tNext ⟨nx, rt, bk, ct⟩ σ H := h
theorem s_asg {g : TG} (h : te σ H fun x H1 => g x σ H1 nx) : tAsg te g ⟨nx, rt, bk, ct⟩ σ H := h
theorem s_ret (h : te σ H rt) : tRet te ⟨nx, rt, bk, ct⟩ σ H := h
theorem s_retN (h : rt .non H) : tRetN ⟨nx, rt, bk, ct⟩ σ H := h
theorem s_drop (h : te σ H fun _ H1 => nx σ H1) : tDrop te ⟨nx, rt, bk, ct⟩ σ H := h
theorem s_if (h : tt σ H fun b H1 => if b = true then t ⟨nx, rt, bk, ct⟩ σ H1 else u ⟨nx, rt, bk, ct⟩ σ H1) : tIfS tt t u ⟨nx, rt, bk, ct⟩ σ H := h
theorem s_break (h : bk σ H) : tBreak ⟨nx, rt, bk, ct⟩ σ H := h
theorem s_cont (h : ct σ H) : tCont ⟨nx, rt, bk, ct⟩ σ H := h
theorem g_name {Q : St → Hp → Prop} (h : Q (σ.set i (some v)) H) : gName i v σ H Q := h
theorem g_tup {n : Nat} {tg : TGs} {a : Addr} {xs : List V} {Q : St → Hp → Prop} (h : SqT K H a xs) (l : xs.length = n) (q : tg xs σ H Q) : gTup K n tg (.ref a) σ H Q := ⟨a, xs, rfl, h, l, q⟩
theorem g_cons {tg : TG} {tgs : TGs} {xs : List V} {Q : St → Hp → Prop} (h : tg v σ H fun σ' H' => tgs xs σ' H' Q) : gCons tg tgs (v :: xs) σ H Q := ⟨v, xs, rfl, h⟩
theorem g_nil {Q : St → Hp → Prop} (h : Q σ H) : gNil [] σ H Q := ⟨rfl, h⟩
theorem s_aug {f : Int → Int → Int} {te : TE} {a : Int} (hx : σ[i]? = some (some (.int a))) (h : te σ H fun y H1 => ∃ b, y = V.int b ∧ nx (σ.set i (some (.int (f a b)))) H1) : tAug i te (ipI f) ⟨nx, rt, bk, ct⟩ σ H := ⟨.int a, hx, by
  have key : (fun y H1 => ∃ b, y = V.int b ∧ nx (σ.set i (some (.int (f a b)))) H1) = fun y H1 => ipI f (.int a) y H1 fun z H2 => nx (σ.set i (some z)) H2 := by
    funext y H1
    apply propext
    constructor
    · rintro ⟨b, rfl, q⟩
      exact ⟨a, b, rfl, rfl, q⟩
    · rintro ⟨a', b, e, rfl, q⟩
      cases e
      exact ⟨b, rfl, q⟩
  rw [key] at h
  exact h⟩
end
end G

set_option Elab.async false
set_option linter.all false
set_option maxRecDepth 100000
set_option maxHeartbeats 4000000
namespace G
open PySem PySem.Spec L2
/-! ### promises by the number of arguments -/
def Sp0 (P : Hp → VK → XK → Prop) : Sp := fun vs H Q E => vs = [] ∧ P H Q E
def Sp1 (P : V → Hp → VK → XK → Prop) : Sp := fun vs H Q E => ∃ a, vs = [a] ∧ P a H Q E
def Sp2 (P : V → V → Hp → VK → XK → Prop) : Sp := fun vs H Q E => ∃ a b, vs = [a, b] ∧ P a b H Q E
def Sp3 (P : V → V → V → Hp → VK → XK → Prop) : Sp := fun vs H Q E => ∃ a b c, vs = [a, b, c] ∧ P a b c H Q E
def Sp4 (P : V → V → V → V → Hp → VK → XK → Prop) : Sp := fun vs H Q E => ∃ a b c d, vs = [a, b, c, d] ∧ P a b c d H Q E
def Sp5 (P : V → V → V → V → V → Hp → VK → XK → Prop) : Sp := fun vs H Q E => ∃ a b c d e, vs = [a, b, c, d, e] ∧ P a b c d e H Q E
section
variable {P1 : V → Hp → VK → XK → Prop} {P2 : V → V → Hp → VK → XK → Prop} {P3 : V → V → V → Hp → VK → XK → Prop} {P4 : V → V → V → V → Hp → VK → XK → Prop} {P5 : V → V → V → V → V → Hp → VK → XK → Prop} {P0 : Hp → VK → XK → Prop} {a b c d e : V} {H : Hp} {Q : VK} {E : XK} {vs : List V}
theorem i_sp0 (h : P0 H Q E) : Sp0 P0 ([] ++ []) H Q E := ⟨rfl, h⟩
theorem i_sp1 (h : P1 a H Q E) : Sp1 P1 ([a] ++ []) H Q E := ⟨a, rfl, h⟩
theorem i_sp2 (h : P2 a b H Q E) : Sp2 P2 ([a, b] ++ []) H Q E := ⟨a, b, rfl, h⟩
theorem i_sp3 (h : P3 a b c H Q E) : Sp3 P3 ([a, b, c] ++ []) H Q E := ⟨a, b, c, rfl, h⟩
theorem i_sp4 (h : P4 a b c d H Q E) : Sp4 P4 ([a, b, c, d] ++ []) H Q E := ⟨a, b, c, d, rfl, h⟩
theorem i_sp5 (h : P5 a b c d e H Q E) : Sp5 P5 ([a, b, c, d, e] ++ []) H Q E := ⟨a, b, c, d, e, rfl, h⟩
/-- the receiver ahead (tMeth, tMake, tProp) -/
theorem m_sp1 (h : P1 a H Q E) : Sp1 P1 (a :: ([] ++ [])) H Q E := ⟨a, rfl, h⟩
theorem m_sp1' (h : P1 a H Q E) : Sp1 P1 (a :: []) H Q E := ⟨a, rfl, h⟩
theorem m_sp2 (h : P2 a b H Q E) : Sp2 P2 (a :: ([b] ++ [])) H Q E := ⟨a, b, rfl, h⟩
theorem m_sp3 (h : P3 a b c H Q E) : Sp3 P3 (a :: ([b, c] ++ [])) H Q E := ⟨a, b, c, rfl, h⟩
theorem m_sp4 (h : P4 a b c d H Q E) : Sp4 P4 (a :: ([b, c, d] ++ [])) H Q E := ⟨a, b, c, d, rfl, h⟩
theorem m_sp5 (h : P5 a b c d e H Q E) : Sp5 P5 (a :: ([b, c, d, e] ++ [])) H Q E := ⟨a, b, c, d, e, rfl, h⟩
end
/-- how many arguments a promise speaks of -/
def Len (sp : Sp) (n : Nat) : Prop := ∀ vs H Q E, sp vs H Q E → vs.length = n
theorem len0 {P} : Len (Sp0 P) 0 := by rintro _ _ _ _ ⟨rfl, _⟩; rfl
theorem len1 {P} : Len (Sp1 P) 1 := by rintro _ _ _ _ ⟨_, rfl, _⟩; rfl
theorem len2 {P} : Len (Sp2 P) 2 := by rintro _ _ _ _ ⟨_, _, rfl, _⟩; rfl
theorem len3 {P} : Len (Sp3 P) 3 := by rintro _ _ _ _ ⟨_, _, _, rfl, _⟩; rfl
theorem len4 {P} : Len (Sp4 P) 4 := by rintro _ _ _ _ ⟨_, _, _, _, rfl, _⟩; rfl
theorem len5 {P} : Len (Sp5 P) 5 := by rintro _ _ _ _ ⟨_, _, _, _, _, rfl, _⟩; rfl

/-! ### a def that keeps its promise: as a global function, a method, a constructor, a property -/
section
variable (P : Program) (w : World) (K : PySem.W.Frag) (mg : Str → Option Value) (base : Heap)
structure KeepsAt (k : Nat) (ps : List Str) (sp : Sp) (f : Addr) : Prop where
  ex : ∃ fd, FnOk P w K mg base (L2.CX P w) k f fd ps sp ∧ Binds K fd ps []
structure DefOk (k : Nat) (x : Str) (ps : List Str) (sp : Sp) : Prop where
  ex : ∃ f, KeepsAt P w K mg base k ps sp f ∧ PySem.W.keepIn K (.ref f) = true ∧ mg x = some (.ref f)
structure MethOk (k : Nat) (C : Addr) (m : Str) (ps : List Str) (sp : Sp) : Prop where
  ex : ∃ f, KeepsAt P w K mg base k ps sp f ∧ Meth K C m f
  cl : Cls K C
structure MakeOk (k : Nat) (x : Str) (C : Addr) (ps : List Str) (sp : Sp) : Prop where
  ex : ∃ f, KeepsAt P w K mg base k ps sp f ∧ Mk K C f
  mg : mg x = some (.ref C)
structure PrOk (k : Nat) (C : Addr) (m : Str) (ps : List Str) (sp : Sp) : Prop where
  ex : ∃ p g, KeepsAt P w K mg base k ps sp g ∧ PropOf K C m p g
  cl : Cls K C
end
section
variable {P : Program} {w : World} {K : PySem.W.Frag} {mg : Str → Option Value} {base : Heap}
/-- THE RULE for a def -/
theorem keeps {x qual : Str} {params : Arguments} {body : List Stmt} {scope : Scope} {f : Addr} {fd : FuncData} {N ps : List Str} {k : Nat} {sp : Sp} (F : FunD K x qual params body scope [] [] f fd) (S : FnScope N ps scope) (len : Len sp ps.length)
    (hb : ∀ (kV doc pm : Value) (an : Option Addr) (cdv ct : Value) (us : List Value), us.length = ps.length → bindArgs (PySem.W.fnOf x qual params body scope .none kV doc pm an cdv ct) ⟨us, []⟩ = pure (ps.zip us))
    (hbody : ∀ (cdv : Value) (A : Around) (outer : List Env) (s : Shared) (H : Hp) (vs : List V) (Q : VK) (E : XK), Room k (A.deeper (PyProof.Rows.envOfC qual scope s.heap.objs.size f cdv)) → sp vs H Q E →
      ∃ t, PSs (cxOf (L2.CX P w) P w K mg base N qual scope f cdv A outer s H E) body t ∧ t { nx := fun _ H' => Q .non H', rt := Q } (start N vs) H) : KeepsAt P w K mg base (k + 1) ps sp f :=
  ⟨fd, F.ok S len hbody, F.bindsN hb⟩
/-- the law's own def: over a function object that is told -/
theorem keepsF {x qual : Str} {params : Arguments} {body : List Stmt} {scope : Scope} {f : Addr} {fd : FuncData} {N ps : List Str} {k : Nat} {sp : Sp} (F : FunD K x qual params body scope [] [] f fd) (S : FnScope N ps scope) (len : Len sp ps.length)
    (hbody : ∀ (cdv : Value) (A : Around) (outer : List Env) (s : Shared) (H : Hp) (vs : List V) (Q : VK) (E : XK), Room k (A.deeper (PyProof.Rows.envOfC qual scope s.heap.objs.size f cdv)) → sp vs H Q E →
      ∃ t, PSs (cxOf (L2.CX P w) P w K mg base N qual scope f cdv A outer s H E) body t ∧ t { nx := fun _ H' => Q .non H', rt := Q } (start N vs) H) : FnOk P w K mg base (L2.CX P w) (k + 1) f fd ps sp :=
  F.ok S len hbody
theorem KeepsAt.mono {k k' : Nat} {ps : List Str} {sp : Sp} {f : Addr} (h : KeepsAt P w K mg base k ps sp f) (hk : k ≤ k') : KeepsAt P w K mg base k' ps sp f := by
  obtain ⟨fd, G, b⟩ := h.ex
  exact ⟨fd, ⟨G.len, fun A outer s H args us vs Q E hr => G.run A outer s H args us vs Q E (hr.mono hk)⟩, b⟩
end
section
variable {X : Cx} {k j : Nat} {x m : Str} {C : Addr} {ps : List Str} {sp : Sp} {E : XK} {e o : Expr} {es : List Expr} {t : TA} {to : TE} {p pos apos : Pos}
theorem pe_callD (D : DefOk X.prog X.w X.K X.mg X.base k x ps sp) (hr : Room k X.A) (hx : Passes (L2.CX X.prog X.w) X E) (ha : PA X (e :: es) t) (hg : Gl X x := by rfl)
    (hdb : (x == ("__debug__" : Str)) = false := by decide) (he : starEach (e :: es) X.env = (false, eval e X.env) :: starEach es X.env := by rfl) (hpl : (backTo pos (starEach es X.env)).any (·.1) = false := by rfl) :
    PE X (.Call (.Name x p) (e :: es) [] pos) (tCall sp [] E t) := by
  obtain ⟨f, ⟨fd, F, b⟩, kp, hm⟩ := D.ex
  exact pe_call F hr hg hm kp b .nil hx ha hdb he hpl
theorem pe_call0D (D : DefOk X.prog X.w X.K X.mg X.base k x ps sp) (hr : Room k X.A) (hx : Passes (L2.CX X.prog X.w) X E) (hg : Gl X x := by rfl)
    (hdb : (x == ("__debug__" : Str)) = false := by decide) : PE X (.Call (.Name x p) [] [] pos) (tCall sp [] E tNil) := by
  obtain ⟨f, ⟨fd, F, b⟩, kp, hm⟩ := D.ex
  exact pe_call0 F hr hg hm kp b .nil hx hdb
theorem pe_methD {pl : Sem Bool} (D : MethOk X.prog X.w X.K X.mg X.base k C m ps sp) (hr : Room k X.A) (hx : Passes (L2.CX X.prog X.w) X E) (he : PE X o to) (ha : PA X (e :: es) t)
    (hst : starEach (e :: es) X.env = (false, eval e X.env) :: starEach es X.env := by rfl) (hpl : (backTo pos (starEach es X.env)).any (·.1) = false := by rfl)
    (ht : eval (.Call (.Attribute o m apos) (e :: es) [] pos) X.env = (do
      let ov ← eval o X.env
      standAt apos.atName
      let (f, first) ← holding [ov] (getMethod ov m pl)
      callWith pos f first (backTo pos (starEach (e :: es) X.env)) (backToKw pos (keywordEach [] X.env))) := by rfl) :
    PE X (.Call (.Attribute o m apos) (e :: es) [] pos) (tMeth C m sp [] E to t) := by
  obtain ⟨f, ⟨fd, F, b⟩, hm⟩ := D.ex
  exact pe_meth he D.cl hm F hr b .nil hx ha hst hpl ht
theorem pe_meth0D {pl : Sem Bool} (D : MethOk X.prog X.w X.K X.mg X.base k C m ps sp) (hr : Room k X.A) (hx : Passes (L2.CX X.prog X.w) X E) (he : PE X o to)
    (ht : eval (.Call (.Attribute o m apos) [] [] pos) X.env = (do
      let ov ← eval o X.env
      standAt apos.atName
      let (f, first) ← holding [ov] (getMethod ov m pl)
      callWith pos f first (backTo pos (starEach [] X.env)) (backToKw pos (keywordEach [] X.env))) := by rfl) :
    PE X (.Call (.Attribute o m apos) [] [] pos) (tMeth C m sp [] E to tNil) := by
  obtain ⟨f, ⟨fd, F, b⟩, hm⟩ := D.ex
  exact pe_meth0 he D.cl hm F hr b .nil hx ht
theorem pe_makeD (D : MakeOk X.prog X.w X.K X.mg X.base k x C ps sp) (hr : Room (k + 1) X.A) (hx : Passes (L2.CX X.prog X.w) X E) (ha : PA X (e :: es) t) (hg : Gl X x := by rfl)
    (hdb : (x == ("__debug__" : Str)) = false := by decide) (he : starEach (e :: es) X.env = (false, eval e X.env) :: starEach es X.env := by rfl) (hpl : (backTo pos (starEach es X.env)).any (·.1) = false := by rfl) :
    PE X (.Call (.Name x p) (e :: es) [] pos) (tMake C sp [] E t) := by
  obtain ⟨f, ⟨fd, F, b⟩, M⟩ := D.ex
  exact pe_make M F hr hg D.mg b .nil hx ha hdb he hpl
theorem pe_make0D (D : MakeOk X.prog X.w X.K X.mg X.base k x C ps sp) (hr : Room (k + 1) X.A) (hx : Passes (L2.CX X.prog X.w) X E) (hg : Gl X x := by rfl)
    (hdb : (x == ("__debug__" : Str)) = false := by decide) : PE X (.Call (.Name x p) [] [] pos) (tMake C sp [] E tNil) := by
  obtain ⟨f, ⟨fd, F, b⟩, M⟩ := D.ex
  exact pe_make0 M F hr hg D.mg b .nil hx hdb
theorem pe_propD (D : PrOk X.prog X.w X.K X.mg X.base k C m ps sp) (hr : Room (k + 1) X.A) (hx : Passes (L2.CX X.prog X.w) X.nox E) (he : PE X o to)
    (hab : attributeBase o m X.env (eval o X.env) = eval o X.env := by rfl) : PE X (.Attribute o m pos) (tProp C sp [] E to) := by
  obtain ⟨p, g, ⟨fd, F, b⟩, hp⟩ := D.ex
  exact pe_prop he D.cl hp F hr b .nil hx hab
/-- what a def's body may let out is what its caller wishes -/
theorem passX (hs : X.stack = X.env :: X.outer) (tk : Takes X fun c d _ H => E c d H) : Passes (L2.CX X.prog X.w) X E := passes_call tk fun _ _ _ _ h => h
end
/-! ### making, methods -/
section
variable {σ : St} {H : Hp} {Q : VK} {C : Addr} {sp : Sp} {E : XK} {t : TA} {to : TE} {m : Str} {dvs : List V}
theorem i_make (h : t σ H fun vs H1 => ∀ x dx, H1 x = none → H1 dx = none → dx ≠ x → sp (.ref x :: (vs ++ dvs)) (upd (upd H1 dx (.own x)) x (.ins C dx [])) (fun v H2 => v = .non ∧ Q (.ref x) H2) E) : tMake C sp dvs E t σ H Q := h
theorem i_meth (h : to σ H fun x H1 => ∃ a dx fs, x = .ref a ∧ H1 a = some (.ins C dx fs) ∧ fs.lookup m = none ∧ t σ H1 fun vs H2 => sp (x :: (vs ++ dvs)) H2 Q E) : tMeth C m sp dvs E to t σ H Q := h
theorem i_exmeth {a dx : Addr} {fs : List (Str × V)} {R : Prop} (h : H a = some (.ins C dx fs)) (l : fs.lookup m = none) (q : R) : ∃ a' dx fs, V.ref a = V.ref a' ∧ H a' = some (.ins C dx fs) ∧ fs.lookup m = none ∧ R := ⟨a, dx, fs, rfl, h, l, q⟩
theorem i_exprop {a dx : Addr} {fs : List (Str × V)} {R : Addr → Prop} (h : H a = some (.ins C dx fs)) (q : R a) : ∃ a' dx fs, V.ref a = V.ref a' ∧ H a' = some (.ins C dx fs) ∧ R a' := ⟨a, dx, fs, rfl, h, q⟩
end
end G

set_option Elab.async false
set_option linter.all false
set_option maxRecDepth 100000
set_option maxHeartbeats 4000000
namespace G
open PySem PySem.Spec L2
/-! ### the built-in names -/
theorem bt_len : bootBuiltins "len" = some (.builtin "len") := by decide +kernel
theorem bt_isinstance : bootBuiltins "isinstance" = some (.builtin "isinstance") := by decide +kernel
theorem bt_abs : bootBuiltins "abs" = some (.builtin "abs") := by decide +kernel
theorem bt_sum : bootBuiltins "sum" = some (.builtin "sum") := by decide +kernel
theorem bt_all : bootBuiltins "all" = some (.builtin "all") := by decide +kernel
theorem bt_any : bootBuiltins "any" = some (.builtin "any") := by decide +kernel
theorem bt_min : bootBuiltins "min" = some (.builtin "min") := by decide +kernel
theorem bt_max : bootBuiltins "max" = some (.builtin "max") := by decide +kernel
theorem bt_sorted : bootBuiltins "sorted" = some (.builtin "sorted") := by decide +kernel
theorem bt_int : bootBuiltins "int" = some (.type "int") := by decide +kernel
theorem bt_bool : bootBuiltins "bool" = some (.type "bool") := by decide +kernel
theorem bt_str : bootBuiltins "str" = some (.type "str") := by decide +kernel
theorem bt_tuple : bootBuiltins "tuple" = some (.type "tuple") := by decide +kernel
theorem bt_list : bootBuiltins "list" = some (.type "list") := by decide +kernel
theorem bt_dict : bootBuiltins "dict" = some (.type "dict") := by decide +kernel
theorem bt_set : bootBuiltins "set" = some (.type "set") := by decide +kernel
theorem bt_range : bootBuiltins "range" = some (.type "range") := by decide +kernel
theorem bt_enumerate : bootBuiltins "enumerate" = some (.type "enumerate") := by decide +kernel
theorem bt_zip : bootBuiltins "zip" = some (.type "zip") := by decide +kernel
/-- a module's name and what it holds -/
def GlV (mg : Str → Option Value) (x : Str) (v : V) : Prop := ∃ u, mg x = some u ∧ RelV v u
theorem pe_glv {X : Cx} {x : Str} {v : V} {pos : Pos} (h : GlV X.mg x v) (hg : Gl X x) (hd : (x == ("__debug__" : Str)) = false := by decide) : PE X (.Name x pos) (tC v) := by
  obtain ⟨u, hm, r⟩ := h
  exact pe_glob hg hm r hd
theorem pe_ty {X : Cx} {x : Str} {n : String} {pos : Pos} (hg : Gl X x) (hm : X.mg x = none) (hv : bootBuiltins x = some (.type n)) (hn : x ≠ "__name__" := by decide) (hd : (x == ("__debug__" : Str)) = false := by decide) : PE X (.Name x pos) (tC (.ty n)) :=
  pe_bltn hg hm hv rfl hn hd
/-! ### operators of several kinds -/
def rOr (r r' : R2) : R2 := fun x y H Q => r x y H Q ∨ r' x y H Q
theorem OpR.or {X : Cx} {f : Value → Value → Sem Value} {r r' : R2} (h : OpR X f r) (h' : OpR X f r') : OpR X f (rOr r r') := by
  intro pins s σ H x y v u Q I rx ry q
  rcases q with q | q
  · exact h pins s σ H x y v u Q I rx ry q
  · exact h' pins s σ H x y v u Q I rx ry q
/-! ### isinstance -/
section
variable {K : PySem.W.Frag} {H : Hp} {Q : VK} {x : V}
theorem i_isi {a b : String} {r : Bool} (ty : TyX K H x (.type a)) (h : kitB a b = some r) (q : Q (.bl r) H) : rIsi K [x, .ty b] H Q := ⟨x, .ty b, _, _, r, rfl, .ty b, ty, kit_ty h, q⟩
theorem kb_int_int : kitB "int" "int" = some true := by decide +kernel
theorem kb_int_bool : kitB "int" "bool" = some false := by decide +kernel
theorem kb_int_str : kitB "int" "str" = some false := by decide +kernel
theorem kb_int_tuple : kitB "int" "tuple" = some false := by decide +kernel
theorem kb_bool_int : kitB "bool" "int" = some true := by decide +kernel
theorem kb_bool_bool : kitB "bool" "bool" = some true := by decide +kernel
theorem kb_bool_str : kitB "bool" "str" = some false := by decide +kernel
theorem kb_bool_tuple : kitB "bool" "tuple" = some false := by decide +kernel
theorem kb_str_int : kitB "str" "int" = some false := by decide +kernel
theorem kb_str_bool : kitB "str" "bool" = some false := by decide +kernel
theorem kb_str_str : kitB "str" "str" = some true := by decide +kernel
theorem kb_str_tuple : kitB "str" "tuple" = some false := by decide +kernel
theorem kb_non_int : kitB "NoneType" "int" = some false := by decide +kernel
theorem kb_non_bool : kitB "NoneType" "bool" = some false := by decide +kernel
theorem kb_non_str : kitB "NoneType" "str" = some false := by decide +kernel
theorem kb_non_tuple : kitB "NoneType" "tuple" = some false := by decide +kernel
theorem kb_tuple_int : kitB "tuple" "int" = some false := by decide +kernel
theorem kb_tuple_bool : kitB "tuple" "bool" = some false := by decide +kernel
theorem kb_tuple_str : kitB "tuple" "str" = some false := by decide +kernel
theorem kb_tuple_tuple : kitB "tuple" "tuple" = some true := by decide +kernel
end
/-- the number that a value is, if it is one in a range -/
def numIn : V → Int → Int → Bool
  | .int i, lo, hi => decide (lo ≤ i) && decide (i ≤ hi)
  | _, _, _ => false
/-- a value whose type is told: None, a bool, an int, a text, a tuple -/
inductive Plain (K : PySem.W.Frag) (H : Hp) : V → Prop
  | non : Plain K H .non
  | bl (b : Bool) : Plain K H (.bl b)
  | int (i : Int) : Plain K H (.int i)
  | str (x : Str) : Plain K H (.str x)
  | tup (p : Addr) (h : TyX K H (.ref p) (.type "tuple")) : Plain K H (.ref p)
theorem Plain.ty {K : PySem.W.Frag} {H : Hp} {x : V} (p : Plain K H x) : ∃ n : String, TyX K H x (.type n) ∧ (∀ b, b ∈ ["int", "bool", "str", "tuple"] → ∃ r, kitB n b = some r) := by
  cases p with
  | non => exact ⟨"NoneType", .base .non, by decide +kernel⟩
  | bl b => exact ⟨"bool", .base (.bl b), by decide +kernel⟩
  | int i => exact ⟨"int", .base (.int i), by decide +kernel⟩
  | str y => exact ⟨"str", .base (.str y), by decide +kernel⟩
  | tup p h => exact ⟨"tuple", h, by decide +kernel⟩
/-- is_number(thing, low, high) -/
def spIsNumber (K : PySem.W.Frag) : Sp := Sp3 fun a b c H Q _ => ∃ lo hi : Int, b = .int lo ∧ c = .int hi ∧ Plain K H a ∧ Q (.bl (numIn a lo hi)) H
theorem i_spIsNumber {K : PySem.W.Frag} {a : V} {lo hi : Int} {H : Hp} {Q : VK} {E : XK} (p : Plain K H a) (q : Q (.bl (numIn a lo hi)) H) : spIsNumber K ([a, .int lo, .int hi] ++ []) H Q E := i_sp3 ⟨lo, hi, rfl, rfl, p, q⟩
end G

set_option Elab.async false
set_option linter.all false
set_option maxRecDepth 100000
set_option maxHeartbeats 4000000
namespace G
open PySem PySem.Spec L2
section
variable {σ : L2.St} {H : Hp} {Q : VK} {v x y z : V} {i : Nat} {ta tb tc te tv : TE} {tt tu : TT} {K : PySem.W.Frag} {nx bk ct : L2.St → Hp → Prop} {rt : VK} {t u : TS} {g : TG} {wi : TI} {tbd : TS}
theorem iteNT {A B : Prop} (h : A) : if (!false) = true then A else B := by rw [if_pos (show (!false) = true from rfl)]; exact h
theorem iteNF {A B : Prop} (h : B) : if (!true) = true then A else B := by rw [if_neg (by decide)]; exact h
theorem iteB {A B : Prop} {b : Bool} (h1 : b = true → A) (h2 : b = false → B) : if b = true then A else B := by
  cases b with
  | true => rw [if_pos rfl]; exact h1 rfl
  | false => rw [if_neg Bool.false_ne_true]; exact h2 rfl
theorem iteY {A B : Prop} {b : Bool} (e : b = true) (h : A) : if b = true then A else B := by rw [if_pos e]; exact h
theorem iteN {A B : Prop} {b : Bool} (e : b = false) (h : B) : if b = true then A else B := by rw [e, if_neg Bool.false_ne_true]; exact h
/-! ### loops -/
theorem s_for (h : wi σ H fun J H1 => ∃ W : Nat → Nat → L2.St → Hp → Prop, (∃ m, W 0 m σ H1) ∧ ∀ i m σ H, W i m σ H → (J.stop i H ∧ nx σ H) ∨ (J.go i H ∧ ∃ N : L2.St → Hp → Prop, (∀ σ' H', N σ' H' → ∃ m', m' < m ∧ W (i + 1) m' σ' H') ∧ ∀ x H', J.yld i H x H' → g x σ H' fun σ2 H2 => tbd ⟨N, rt, nx, N⟩ σ2 H2)) : tFor wi g tbd ⟨nx, rt, bk, ct⟩ σ H := h
theorem s_seqIf {a b : TS} (h : tIfS tt a b ⟨u ⟨nx, rt, bk, ct⟩, rt, bk, ct⟩ σ H) : tSeq (tIfS tt a b) u ⟨nx, rt, bk, ct⟩ σ H := h
/-- what follows a statement, once for all its ways -/
theorem s_cut (I : L2.St → Hp → Prop) (h2 : ∀ σ' H', I σ' H' → u ⟨nx, rt, bk, ct⟩ σ' H') (h1 : (∀ σ' H', I σ' H' → u ⟨nx, rt, bk, ct⟩ σ' H') → t ⟨u ⟨nx, rt, bk, ct⟩, rt, bk, ct⟩ σ H) : tSeq t u ⟨nx, rt, bk, ct⟩ σ H := h1 h2
theorem i_rng1 {R : It → Hp → Prop} {ta : TA} (h : ta σ H fun vs H1 => ∃ j : Int, vs = [.int j] ∧ -(2 ^ 62) ≤ j ∧ j < 2 ^ 62 ∧ R (Itr 0 j.toNat) H1) : iRng1 ta σ H R := h
theorem i_rng2 {R : It → Hp → Prop} {ta : TA} (h : ta σ H fun vs H1 => ∃ i j : Int, vs = [.int i, .int j] ∧ (-(2 ^ 62) ≤ i ∧ i < 2 ^ 62 ∧ -(2 ^ 62) ≤ j ∧ j < 2 ^ 62) ∧ R (Itr i (j - i).toNat) H1) : iRng2 ta σ H R := h
theorem i_ilist {R : It → Hp → Prop} (h : te σ H fun x H1 => ∃ a, x = .ref a ∧ (∃ xs, SqL K H1 a xs) ∧ R (Itl K a) H1) : iList K te σ H R := h
theorem i_itup {R : It → Hp → Prop} (h : te σ H fun x H1 => ∃ a, x = .ref a ∧ (∃ xs, SqT K H1 a xs) ∧ R (Itt K a) H1) : iTup K te σ H R := h
theorem l_range {lo : Int} {n : Nat} (Pv : Nat → L2.St → Hp → Prop) (h0 : Pv 0 σ H) (hs : ∀ i σ H, i < n → Pv i σ H → g (.int (lo + i)) σ H fun σ2 H2 => tbd ⟨Pv (i + 1), rt, nx, Pv (i + 1)⟩ σ2 H2) (hd : ∀ σ H, Pv n σ H → nx σ H) :
    ∃ W : Nat → Nat → L2.St → Hp → Prop, (∃ m, W 0 m σ H) ∧ ∀ i m σ H, W i m σ H → ((Itr lo n).stop i H ∧ nx σ H) ∨ ((Itr lo n).go i H ∧ ∃ N : L2.St → Hp → Prop, (∀ σ' H', N σ' H' → ∃ m', m' < m ∧ W (i + 1) m' σ' H') ∧ ∀ x H', (Itr lo n).yld i H x H' → g x σ H' fun σ2 H2 => tbd ⟨N, rt, nx, N⟩ σ2 H2) :=
  for_range (D := ⟨nx, rt, fun _ _ => False, fun _ _ => False⟩) Pv h0 hs hd
theorem l_list {a : Addr} {xs : List V} (Pv : Nat → L2.St → Hp → Prop) (h0 : Pv 0 σ H) (hl : ∀ i σ H, i ≤ xs.length → Pv i σ H → SqL K H a xs) (hs : ∀ i x σ H, xs[i]? = some x → Pv i σ H → g x σ H fun σ2 H2 => tbd ⟨Pv (i + 1), rt, nx, Pv (i + 1)⟩ σ2 H2) (hd : ∀ σ H, Pv xs.length σ H → nx σ H) :
    ∃ W : Nat → Nat → L2.St → Hp → Prop, (∃ m, W 0 m σ H) ∧ ∀ i m σ H, W i m σ H → ((Itl K a).stop i H ∧ nx σ H) ∨ ((Itl K a).go i H ∧ ∃ N : L2.St → Hp → Prop, (∀ σ' H', N σ' H' → ∃ m', m' < m ∧ W (i + 1) m' σ' H') ∧ ∀ x H', (Itl K a).yld i H x H' → g x σ H' fun σ2 H2 => tbd ⟨N, rt, nx, N⟩ σ2 H2) :=
  for_list (D := ⟨nx, rt, fun _ _ => False, fun _ _ => False⟩) Pv h0 hl hs hd
theorem l_tup {a : Addr} {xs : List V} (Pv : Nat → L2.St → Hp → Prop) (h0 : Pv 0 σ H) (hl : ∀ i σ H, i ≤ xs.length → Pv i σ H → SqT K H a xs) (hs : ∀ i x σ H, xs[i]? = some x → Pv i σ H → g x σ H fun σ2 H2 => tbd ⟨Pv (i + 1), rt, nx, Pv (i + 1)⟩ σ2 H2) (hd : ∀ σ H, Pv xs.length σ H → nx σ H) :
    ∃ W : Nat → Nat → L2.St → Hp → Prop, (∃ m, W 0 m σ H) ∧ ∀ i m σ H, W i m σ H → ((Itt K a).stop i H ∧ nx σ H) ∨ ((Itt K a).go i H ∧ ∃ N : L2.St → Hp → Prop, (∀ σ' H', N σ' H' → ∃ m', m' < m ∧ W (i + 1) m' σ' H') ∧ ∀ x H', (Itt K a).yld i H x H' → g x σ H' fun σ2 H2 => tbd ⟨N, rt, nx, N⟩ σ2 H2) :=
  for_tup (D := ⟨nx, rt, fun _ _ => False, fun _ _ => False⟩) Pv h0 hl hs hd
theorem s_while (W : Nat → L2.St → Hp → Prop) (m0 : Nat) (h0 : W m0 σ H) (hs : ∀ m σ H, W m σ H → tt σ H fun b H1 => if b = true then ∃ N : L2.St → Hp → Prop, (∀ σ' H', N σ' H' → ∃ m', m' < m ∧ W m' σ' H') ∧ tbd ⟨N, rt, nx, N⟩ σ H1 else nx σ H1) : tWhile tt tbd ⟨nx, rt, bk, ct⟩ σ H :=
  ⟨W, ⟨m0, h0⟩, hs⟩
theorem w_body {W : Nat → L2.St → Hp → Prop} {m : Nat} {R : (L2.St → Hp → Prop) → Prop} (h : R fun σ' H' => ∃ m', m' < m ∧ W m' σ' H') : ∃ N : L2.St → Hp → Prop, (∀ σ' H', N σ' H' → ∃ m', m' < m ∧ W m' σ' H') ∧ R N := ⟨_, fun _ _ h => h, h⟩
theorem s_par {i j : Nat} {ta : TA} (h : ta σ H fun vs H1 => ∃ v w, vs = [v, w] ∧ nx ((σ.set i (some v)).set j (some w)) H1) : tPar i j ta ⟨nx, rt, bk, ct⟩ σ H := h
theorem e_par {v w : V} {R : V → V → Prop} (h : R v w) : ∃ v' w', [v, w] = [v', w'] ∧ R v' w' := ⟨v, w, rfl, h⟩
theorem s_par3 {i j l : Nat} {ta : TA} (h : ta σ H fun vs H1 => ∃ u v w, vs = [u, v, w] ∧ nx (((σ.set i (some u)).set j (some v)).set l (some w)) H1) : tPar3 i j l ta ⟨nx, rt, bk, ct⟩ σ H := h
theorem e_par3 {u v w : V} {R : V → V → V → Prop} (h : R u v w) : ∃ u' v' w', [u, v, w] = [u', v', w'] ∧ R u' v' w' := ⟨u, v, w, rfl, h⟩
theorem g_sub {to ti : TE} {t : TSet} {Q : L2.St → Hp → Prop} (h : to σ H fun o H1 => ti σ H1 fun i H2 => t o i v H2 fun H3 => Q σ H3) : gSub to ti t v σ H Q := h
theorem i_setL {p : Addr} {xs : List V} {k : Int} {j : Nat} {Q : Hp → Prop} (h : H p = some (.lst xs)) (e : ixN xs.length k = some j) (q : Q (upd H p (.lst (xs.set j v)))) : rSetL (.ref p) (.int k) v H Q := ⟨p, xs, k, j, rfl, rfl, h, e, q⟩
theorem s_fld {f : Str} (h : tv σ H fun y H1 => ta σ H1 fun x H2 => ∃ a C dx fs, x = .ref a ∧ H2 a = some (.ins C dx fs) ∧ Cls K C ∧ NoAttr K C f ∧ fs.length < 1000 ∧ nx σ (upd H2 a (.ins C dx (putF f y fs)))) : sFld K ta tv f ⟨nx, rt, bk, ct⟩ σ H := h
theorem e_fld {a C dx : Addr} {fs : List (Str × V)} {f : Str} {R : Addr → Addr → Addr → List (Str × V) → Prop} (h : H a = some (.ins C dx fs)) (c : Cls K C) (n : NoAttr K C f) (l : fs.length < 1000) (q : R a C dx fs) :
    ∃ a' C dx fs, V.ref a = V.ref a' ∧ H a' = some (.ins C dx fs) ∧ Cls K C ∧ NoAttr K C f ∧ fs.length < 1000 ∧ R a' C dx fs := ⟨a, C, dx, fs, rfl, h, c, n, l, q⟩
theorem i_bm {T : String} {r : V → List V → Hp → VK → Prop} {to : TE} {t : TA} (h : to σ H fun x H1 => tyV K T x H1 ∧ t σ H1 fun xs H2 => r x xs H2 Q) : tBM K T r to t σ H Q := h
theorem i_bm0 {T : String} {r : V → List V → Hp → VK → Prop} {to : TE} (h : to σ H fun x H1 => tyV K T x H1 ∧ r x [] H1 Q) : tBM0 K T r to σ H Q := h
theorem tyV_lst {p : Addr} {xs : List V} (h : H p = some (.lst xs)) : tyV K "list" (.ref p) H := .inl ⟨rfl, _, SqL.of h⟩
theorem i_append {l : Addr} {xs : List V} (h : H l = some (.lst xs)) (n : xs.length < sizeLine) (q : Q .non (upd H l (.lst (xs ++ [y])))) : rAppend (.ref l) [y] H Q := ⟨l, xs, y, rfl, rfl, h, n, q⟩
theorem i_lc {g : TG} {vs : List Nat} (h : wi σ H fun J H1 => ∀ D, H1 D = none → ∃ W : Nat → Nat → Hp → Prop, (∃ m, W 0 m (upd H1 D (.lst []))) ∧ ∀ i m H, W i m H →
  (J.stop i H ∧ Q (.ref D) H) ∨ (J.go i H ∧ ∃ Nx : Hp → Prop, (∀ H', Nx H' → ∃ m', m' < m ∧ W (i + 1) m' H') ∧ ∀ x H', J.yld i H x H' → g x (wipe σ vs) H' fun σ2 H2 => wipe σ2 vs = wipe σ vs ∧ tt σ2 H2 fun b H3 =>
    if b = true then te σ2 H3 fun y H4 => ∃ acc, H4 D = some (.lst acc) ∧ acc.length < sizeLine ∧ Nx (upd H4 D (.lst (acc ++ [y]))) else Nx H3)) : tLc wi g tt te vs σ H Q := h
end
/-! ### values of one kind compared -/
def rEqP (K : PySem.W.Frag) : R2 := rOr rEq (rEqD K)
def rNeP (K : PySem.W.Frag) : R2 := rOr rNe (rNeD K)
theorem op_eqP {X : Cx} (hu : X.A.units + 64 < cLine) : OpR X (compareOp .Eq) (rEqP X.K) := op_eq.or (op_eqD hu)
theorem op_neP {X : Cx} (hu : X.A.units + 64 < cLine) : OpR X (compareOp .NotEq) (rNeP X.K) := op_ne.or (op_neD hu)
section
variable {K : PySem.W.Frag} {H : Hp} {Q : VK} {x y : V}
theorem i_eqS (s : scal x y = true) (q : Q (.bl (decide (x = y))) H) : rEqP K x y H Q := .inl ⟨s, q⟩
theorem i_neS (s : scal x y = true) (q : Q (.bl (!decide (x = y))) H) : rNeP K x y H Q := .inl ⟨s, q⟩
theorem i_eqI {a b : Int} (q : Q (.bl (decide (a = b))) H) : rEqP K (.int a) (.int b) H Q := .inl ⟨rfl, by
  have e : decide (V.int a = V.int b) = decide (a = b) := by
    by_cases h : a = b
    · subst h; simp
    · rw [decide_eq_false h, decide_eq_false (fun z => h (V.int.inj z))]
  rw [e]
  exact q⟩
theorem i_neI {a b : Int} (q : Q (.bl (!decide (a = b))) H) : rNeP K (.int a) (.int b) H Q := .inl ⟨rfl, by
  have e : decide (V.int a = V.int b) = decide (a = b) := by
    by_cases h : a = b
    · subst h; simp
    · rw [decide_eq_false h, decide_eq_false (fun z => h (V.int.inj z))]
  rw [e]
  exact q⟩
end
/-! ### heaps: all but one object kept -/
def But (r : Addr) (H H' : Hp) : Prop := ∀ a o, a ≠ r → H a = some o → H' a = some o
theorem But.refl {r : Addr} {H : Hp} : But r H H := fun _ _ _ h => h
theorem But.trans {r : Addr} {H H1 H2 : Hp} (a : But r H H1) (b : But r H1 H2) : But r H H2 := fun x o n h => b x o n (a x o n h)
theorem But.upd {r : Addr} {H H' : Hp} {o : HO} (a : But r H H') : But r H (L2.upd H' r o) := fun x u n h => by rw [upd_ne n]; exact a x u n h
theorem But.new {r p : Addr} {H H' : Hp} {o : HO} (a : But r H H') (hp : H' p = none) : But r H (L2.upd H' p o) := fun x u n h => by
  have h1 := a x u n h
  rw [upd_ne (ne_of_none h1 hp)]
  exact h1
theorem But.of_same {r : Addr} {H H' : Hp} (s : Same H H') : But r H H' := fun x o _ h => s x o h
theorem Same.new {p : Addr} {H H' : Hp} {o : HO} (a : Same H H') (hp : H' p = none) : Same H (upd H' p o) := fun x u h => by
  have h1 := a x u h
  rw [upd_ne (ne_of_none h1 hp)]
  exact h1
theorem Same.mut {p : Addr} {H H' : Hp} {o : HO} (a : Same H H') (hp : H p = none) : Same H (upd H' p o) := fun x u h => by
  rw [upd_ne (ne_of_none h hp)]
  exact a x u h
theorem But.free {r p : Addr} {H H' : Hp} {o : HO} (a : But r H H') (hr : H r = some o) (hr' : ∃ u, H' r = some u) (hp : H' p = none) : H p = none := by
  cases e : H p with
  | none => rfl
  | some u =>
    by_cases h : p = r
    · obtain ⟨u', hu⟩ := hr'
      rw [h, hu] at hp
      cases hp
    · rw [a p u h e] at hp
      cases hp
/-! ### the law's row of draws -/
/-- the script: locked, or of the module's own objects -/
def Sc (K : PySem.W.Frag) (H : Hp) (a : Addr) (ns : List Int) : Prop := (∃ o, H a = some (.frz o (.lst (ns.map V.int)))) ∨ ∀ H', SqL K H' a (ns.map V.int)
theorem Sc.seq {K : PySem.W.Frag} {H : Hp} {a : Addr} {ns : List Int} (h : Sc K H a ns) : SqL K H a (ns.map V.int) := by
  rcases h with ⟨o, h⟩ | h
  · exact .inl (.inr ⟨o, h⟩)
  · exact h H
theorem Sc.of {K : PySem.W.Frag} {H : Hp} {a : Addr} {ns : List Int} (ho : Only H) (h : SqL K H a (ns.map V.int)) : Sc K H a ns := by
  rcases h with (h | ⟨o, h⟩) | h
  · rcases ho a with z | ⟨o, xs, z⟩
    · rw [h] at z; cases z
    · rw [h] at z; cases z
  · exact .inl ⟨o, h⟩
  · exact .inr fun H' => .inr h
/-- what stands at a may be changed, if it is not locked -/
theorem Sc.but {K : PySem.W.Frag} {H H' : Hp} {a r : Addr} {ns : List Int} {u : HO} (h : Sc K H a ns) (hr : H r = some u) (hu : ∀ o v, u ≠ .frz o v) (b : But r H H') : Sc K H' a ns := by
  rcases h with ⟨o, h⟩ | h
  · exact .inl ⟨o, b a _ (fun z => by rw [z, hr] at h; exact hu _ _ (Option.some.inj h)) h⟩
  · exact .inr h
theorem Sc.same {K : PySem.W.Frag} {H H' : Hp} {a : Addr} {ns : List Int} (h : Sc K H a ns) (s : Same H H') : Sc K H' a ns := by
  rcases h with ⟨o, h⟩ | h
  · exact .inl ⟨o, s _ _ h⟩
  · exact .inr h
def RowAt (K : PySem.W.Frag) (H : Hp) (r : Addr) : Prop := ∃ (a : Addr) (ns : List Int) (i s g : Int), H r = some (.lst [.ref a, .int i, .int s, .int g]) ∧ Sc K H a ns ∧ 0 ≤ i
theorem lst_frz {xs : List V} : ∀ o v, HO.lst xs ≠ .frz o v := fun _ _ z => nomatch z
theorem RowAt.but {K : PySem.W.Frag} {H H' : Hp} {r p : Addr} {o : HO} (h : RowAt K H r) (hp : H p = some o) (ho : ∀ q v, o ≠ .frz q v) (hn : p ≠ r) (b : But p H H') : RowAt K H' r := by
  obtain ⟨a, ns, i, s, g, h1, h2, h3⟩ := h
  exact ⟨a, ns, i, s, g, b r _ hn.symm h1, h2.but hp ho b, h3⟩
theorem RowAt.same {K : PySem.W.Frag} {H H' : Hp} {r : Addr} (h : RowAt K H r) (b : Same H H') : RowAt K H' r := by
  obtain ⟨a, ns, i, s, g, h1, h2, h3⟩ := h
  exact ⟨a, ns, i, s, g, b r _ h1, h2.same b, h3⟩
/-- where the row stands nothing new is laid -/
theorem RowAt.ne {K : PySem.W.Frag} {H : Hp} {r p : Addr} (h : RowAt K H r) (hp : H p = none) : p ≠ r := by
  obtain ⟨_, _, _, _, _, h1, _⟩ := h
  exact fun z => by rw [z, h1] at hp; cases hp
theorem RowAt.lst {K : PySem.W.Frag} {H : Hp} {r : Addr} (h : RowAt K H r) : ∃ xs, H r = some (.lst xs) := by
  obtain ⟨_, _, _, _, _, h1, _⟩ := h
  exact ⟨_, h1⟩
/-- _law_taken(row, many) -/
def spTaken (K : PySem.W.Frag) : Sp := Sp2 fun a b H Q _ => ∃ (r : Addr) (n : Int), a = .ref r ∧ b = .int n ∧ 0 < n ∧ n < 2 ^ 64 ∧ RowAt K H r ∧ ∀ (d : Int) (H' : Hp), 0 ≤ d → d < n → RowAt K H' r → But r H H' → Q (.int d) H'
theorem i_spTaken {K : PySem.W.Frag} {r : Addr} {n : Int} {H : Hp} {Q : VK} {E : XK} (hr : RowAt K H r) (h0 : 0 < n) (h1 : n < 2 ^ 64) (q : ∀ (d : Int) (H' : Hp), 0 ≤ d → d < n → RowAt K H' r → But r H H' → Q (.int d) H') : spTaken K ([.ref r, .int n] ++ []) H Q E := i_sp2 ⟨r, n, rfl, rfl, h0, h1, hr, q⟩
theorem divW {i j : Int} (h : 0 < j) (h1 : j < 2 ^ 64) : CDivW i j := wide_div h (b := 64) (by omega) (by decide) (by decide)
end G

set_option Elab.async false
set_option linter.all false
set_option maxRecDepth 100000
set_option maxHeartbeats 4000000
namespace G
open PySem PySem.Spec L2
/-! ### built-in calls, their readings by name -/
def rInt1 : List V → Hp → VK → Prop := fun xs H Q => (∃ i, xs = [.int i] ∧ Q (.int i) H) ∨ ∃ k, xs = [.bl k] ∧ Q (.int (if k then 1 else 0)) H
def rLen (K : PySem.W.Frag) : List V → Hp → VK → Prop := fun xs H Q => ∃ x n, xs = [x] ∧ LenV K x H n ∧ Q (.int n) H
def rMin2 : List V → Hp → VK → Prop := fun xs H Q => ∃ i j, xs = [.int i, .int j] ∧ Q (.int (if j < i then j else i)) H
def rMax2 : List V → Hp → VK → Prop := fun xs H Q => ∃ i j, xs = [.int i, .int j] ∧ Q (.int (if j > i then j else i)) H
def rAbs : List V → Hp → VK → Prop := fun xs H Q => ∃ i, xs = [.int i] ∧ Q (.int (if i < 0 then -i else i)) H
def rListOf (K : PySem.W.Frag) : List V → Hp → VK → Prop := fun xs H Q => ∃ p ys, xs = [.ref p] ∧ (SqL K H p ys ∨ SqT K H p ys) ∧ ∀ l, H l = none → Q (.ref l) (upd H l (.lst ys))
def rTupleOf (K : PySem.W.Frag) : List V → Hp → VK → Prop := fun xs H Q => ∃ p ys, xs = [.ref p] ∧ ((SqL K H p ys ∧ ∀ l, H l = none → Q (.ref l) (upd H l (.tup ys))) ∨ (SqT K H p ys ∧ Q (.ref p) H))
section
variable {X : Cx}
theorem c_int1 : CallR X (.type "int") rInt1 := call_int1
theorem c_len : CallR X (.builtin "len") (rLen X.K) := call_len
theorem c_min2 (hc : X.calm = true) : CallR X (.builtin "min") rMin2 := call_min2 hc
theorem c_max2 (hc : X.calm = true) : CallR X (.builtin "max") rMax2 := call_max2 hc
theorem c_abs : CallR X (.builtin "abs") rAbs := call_abs
theorem c_listOf : CallR X (.type "list") (rListOf X.K) := call_list_of
theorem c_tupleOf : CallR X (.type "tuple") (rTupleOf X.K) := call_tuple_of
end
section
variable {σ : L2.St} {H : Hp} {Q : VK} {v x y z : V} {K : PySem.W.Frag}
theorem i_int1 {a : Int} (q : Q (.int a) H) : rInt1 [.int a] H Q := .inl ⟨a, rfl, q⟩
theorem i_int1b {b : Bool} (q : Q (.int (if b then 1 else 0)) H) : rInt1 [.bl b] H Q := .inr ⟨b, rfl, q⟩
theorem i_lenL {p : Addr} {xs : List V} (h : SqL K H p xs) (q : Q (.int (xs.length : Int)) H) : rLen K [.ref p] H Q := ⟨_, _, rfl, .inl ⟨_, h, rfl⟩, q⟩
theorem i_lenT {p : Addr} {xs : List V} (h : SqT K H p xs) (q : Q (.int (xs.length : Int)) H) : rLen K [.ref p] H Q := ⟨_, _, rfl, .inr ⟨_, h, rfl⟩, q⟩
theorem i_lenS {s : Str} (h : s.length ≤ sizeLine) (q : Q (.int (s.length : Int)) H) : rLen K [.str s] H Q := ⟨_, _, rfl, ⟨h, rfl⟩, q⟩
theorem i_min2 {a b : Int} (q : Q (.int (if b < a then b else a)) H) : rMin2 [.int a, .int b] H Q := ⟨a, b, rfl, q⟩
theorem i_max2 {a b : Int} (q : Q (.int (if b > a then b else a)) H) : rMax2 [.int a, .int b] H Q := ⟨a, b, rfl, q⟩
theorem i_abs {a : Int} (q : Q (.int (if a < 0 then -a else a)) H) : rAbs [.int a] H Q := ⟨a, rfl, q⟩
theorem i_listL {p : Addr} {ys : List V} (h : SqL K H p ys) (q : ∀ l, H l = none → Q (.ref l) (upd H l (.lst ys))) : rListOf K [.ref p] H Q := ⟨p, ys, rfl, .inl h, q⟩
theorem i_listT {p : Addr} {ys : List V} (h : SqT K H p ys) (q : ∀ l, H l = none → Q (.ref l) (upd H l (.lst ys))) : rListOf K [.ref p] H Q := ⟨p, ys, rfl, .inr h, q⟩
theorem i_tupleL {p : Addr} {ys : List V} (h : SqL K H p ys) (q : ∀ l, H l = none → Q (.ref l) (upd H l (.tup ys))) : rTupleOf K [.ref p] H Q := ⟨p, ys, rfl, .inl ⟨h, q⟩⟩
theorem i_tupleT {p : Addr} {ys : List V} (h : SqT K H p ys) (q : Q (.ref p) H) : rTupleOf K [.ref p] H Q := ⟨p, ys, rfl, .inr ⟨h, q⟩⟩
end
end G

set_option Elab.async false
set_option linter.all false
set_option maxRecDepth 100000
set_option maxHeartbeats 4000000
namespace G
open PySem PySem.Spec L2 He
/-! ### the facts of the head: HeadHook4's, and defs at any address (getters) -/
abbrev AlG : Type := AlX × List FnW
def obsG' (fa : List Fa) (fn : List DefD) (ts : List Tab) (tf : List Defn) (ex : PySem.W.Frag → Bool) (fg : List He5.DefA) (g : Addr → Option Obj) (n : Nat) : AlG :=
  ((obsT fa fn ts (frT g (asD g n)), (ex (frT g (asD g n)) && fg.all fun d => d.ok (frT g (asD g n))) && tabsB g tf (frT g (asD g n))), fg.map fun d => He5.fnA (frT g (asD g n)) (d.at_ (frT g (asD g n))))
def valG (fn : List DefD) (ts : List Tab) (fg : List He5.DefA) (w : World) : AlG := (valX fn ts w, fg.map He5.DefA.val)
structure SaysG (fa : List Fa) (fn : List DefD) (ts : List Tab) (tf : List Defn) (ex : PySem.W.Frag → Bool) (fg : List He5.DefA) (w : World) (h : Heap) (K : PySem.W.Frag) : Prop where
  x : SaysX fa fn ts tf ex w h K
  gok : ∀ d ∈ fg, d.ok K = true
  g : fg.map (fun d => He5.fnA K (d.at_ K)) = fg.map He5.DefA.val
theorem saysG_of {n : Nat} {fa : List Fa} {fn : List DefD} {ts : List Tab} {tf : List Defn} {ex : PySem.W.Frag → Bool} {fg : List He5.DefA} {w : World} {h : Heap} (e : obsG' fa fn ts tf ex fg h.get? n = valG fn ts fg w) : SaysG fa fn ts tf ex fg w h (frT h.get? (asD h.get? n)) := by
  have e1 : obsX n fa fn ts tf (fun K => ex K && fg.all fun d => d.ok K) h.get? = valX fn ts w := congrArg (fun z : AlG => z.1) e
  have e2 : fg.map (fun d => He5.fnA (frT h.get? (asD h.get? n)) (d.at_ (frT h.get? (asD h.get? n)))) = fg.map He5.DefA.val := congrArg (fun z : AlG => z.2) e
  have s := saysX_of e1
  obtain ⟨m1, m2⟩ := ba s.more
  exact ⟨⟨s.t, m1, s.hd, s.out, s.empty⟩, fun d hd => List.all_eq_true.mp m2 d hd, e2⟩
def hookG (n : Nat) (fa : List Fa) (fn : List DefD) (ts : List Tab) (tf : List Defn) (ex : PySem.W.Frag → Bool) (fg : List He5.DefA) : PySem.W.Hook where
  α := AlG
  obs := fun s => obsG' fa fn ts tf ex fg s.heap.get? n
  val := fun w => valG fn ts fg w
  says := fun w h => ∃ K : PySem.W.Frag, K.In h ∧ SaysG fa fn ts tf ex fg w h K
  of := fun _ _ e => ⟨_, frT_in, saysG_of e⟩
  keeps := fun _ _ _ ⟨K, hK, c⟩ k => ⟨K, PySem.W.Frag.In.keeps hK k, ⟨⟨c.x.t, c.x.more, c.x.hd, c.x.out, fun p hp => k _ _ (c.x.empty p hp)⟩, c.gok, c.g⟩⟩
def obH (n : Nat) (fa : List Fa) (fn : List DefD) (ts : List Tab) (tf : List Defn) (ex : PySem.W.Frag → Bool) (fg : List He5.DefA) (s : PySem.W.SharedT) : AlG := obsG' fa fn ts tf ex fg (HandSHeadRun.getT s) n
theorem obH_eq {n : Nat} {fa : List Fa} {fn : List DefD} {ts : List Tab} {tf : List Defn} {ex : PySem.W.Frag → Bool} {fg : List He5.DefA} (s : PySem.W.SharedT) : obH n fa fn ts tf ex fg s = (hookG n fa fn ts tf ex fg).obs s.abs := by
  have e : HandSHeadRun.getT s = s.abs.heap.get? := funext (HandSHeadRun.getT_eq s)
  unfold obH
  rw [e] <;> rfl
section
variable {fa : List Fa} {fn : List DefD} {ts : List Tab} {tf : List Defn} {ex : PySem.W.Frag → Bool} {fg : List He5.DefA} {w : World} {h : Heap} {K : PySem.W.Frag}
theorem SaysG.fact (c : SaysG fa fn ts tf ex fg w h K) (i : Nat) {f : Fa} (hi : fa[i]? = some f := by rfl) : f.ok K = true := c.x.t.d.fact i hi
theorem SaysG.def_ (c : SaysG fa fn ts tf ex fg w h K) (i : Nat) {d : DefD} (hi : fn[i]? = some d := by rfl) : ∃ fd, FunD K d.name d.qual d.params d.body d.scope (d.dvs K) (d.kws K) (fAd K d.at_) fd := c.x.t.d.def_ i hi
theorem SaysG.get (c : SaysG fa fn ts tf ex fg w h K) (i : Nat) {d : He5.DefA} (hi : fg[i]? = some d := by rfl) : ∃ fd, FunD K d.name d.qual d.params d.body d.scope (d.dvs K) (d.kws K) (d.at_ K) fd := by
  have e := c.g
  have e2 : (fg.map fun d => He5.fnA K (d.at_ K))[i]? = (fg.map He5.DefA.val)[i]? := by rw [e]
  rw [List.getElem?_map, List.getElem?_map, hi] at e2
  exact He5.DefA.funD (Option.some.inj e2) (c.gok d (List.mem_of_getElem? hi))
end
/-! ### properties -/
def propGet (K : PySem.W.Frag) (C : Addr) (f : Str) : Addr := match PySem.W.recIn K (ma K C f) "property" with
  | some (.ref g :: _) => g
  | _ => 0
def propB (K : PySem.W.Frag) (C : Addr) (f : Str) : Bool :=
  eqO (PySem.W.findIn K (.ref C) f) (some (some (.ref (ma K C f)))) && (eqO (PySem.W.specialIn K (.ref (ma K C f)) "__get__") (some (some (.builtin "property.__get__"))) && (decide (PySem.W.takesIn K (.ref (ma K C f)) = some true) && (match PySem.W.recIn K (ma K C f) "property" with
    | some (.ref _ :: _) => true
    | _ => false)))
theorem propB_ok {K : PySem.W.Frag} {C : Addr} {f : Str} (h : propB K C f = true) : PropOf K C f (ma K C f) (propGet K C f) := by
  obtain ⟨h1, h2⟩ := ba h
  obtain ⟨h2, h3⟩ := ba h2
  obtain ⟨h3, h4⟩ := ba h3
  refine ⟨eqO_ok h1, eqO_ok h2, of_decide_eq_true h3, ?_⟩
  unfold propGet
  split at h4
  · rename_i g r e
    rw [e]
    exact ⟨r, rfl⟩
  · cases h4
/-! ### what the module's names hold -/
theorem gl_int {K : PySem.W.Frag} {h : Heap} {mg : Str → Option Value} (X : K.In h) (G : h.Ns mainGlobals mg) {x : Str} {i : Int} (c : (Fa.int x i).ok K = true) : GlV mg x (.int i) := by
  obtain ⟨t, e⟩ := int_ok X G c
  exact ⟨_, e, t, rfl⟩
theorem gl_str {K : PySem.W.Frag} {h : Heap} {mg : Str → Option Value} (X : K.In h) (G : h.Ns mainGlobals mg) {x z : Str} (c : (Fa.str x z).ok K = true) : GlV mg x (.str z) := by
  obtain ⟨t, e⟩ := str_ok X G c
  exact ⟨_, e, t, rfl⟩
theorem gl_ref {K : PySem.W.Frag} {h : Heap} {mg : Str → Option Value} (X : K.In h) (G : h.Ns mainGlobals mg) {x : Str} (c : (Fa.glo x).ok K = true) : GlV mg x (.ref (ga K x)) := ⟨_, glo_ok X G c, rfl⟩
/-! ### the end -/
theorem walk_G {l : PySem.W.OpenLaw} {n k : Nat} {q : Program} {loose : List Str} {XP : (Str → Option Value) → Heap → Prop} {YP : World → Heap → Prop} {d : DefRec} {x : Str}
    (hn : l.most = some n) (hn2 : n ≤ sizeLine) (hdf : d.params.defaults = []) (hr : Room k callerA)
    (F : ∀ (w : World) (mg : Str → Option Value) (fa : Addr) (h : Heap), YP w h → h.Ns mainGlobals mg → mg d.name = some (.ref fa) →
      ∃ (K : PySem.W.Frag) (fd : FuncData) (sp : Sp), K.In h ∧ (∀ (s : Shared) (u : Value), BindsTo s fd ⟨[u], []⟩ [(x, u)]) ∧
        (∀ (H : Hp) (a : Addr) (ns : List Int), ns.length ≤ n → Only H → SqL K H a (ns.map V.int) → sp [.ref a] H (fun v _ => v = .bl true) fun _ _ _ => False) ∧
        ∀ base : Heap, K.In base → base.Ns mainGlobals mg → FnOk l.prog w K mg base (L2.CX l.prog w) k fa fd [x] sp) :
    PySem.W.WalkO q loose XP YP l.row.toRowW d [] (fun f vs => PySem.call f vs) := by
  refine Att.attach_call hn hdf fun w s₀ s₁ mg mb fa o pm cd doc a vs ns G Y ho hd hcd hmg hobj hints hlen hg => ?_
  obtain ⟨K, fd, sp, KX, hb, hsp, hF⟩ := F w mg fa _ Y G.T.g hmg
  exact law_call KX G.T.g G.T.b G.T.builtins G.T.nolimit hg hobj hints (Nat.le_trans hlen hn2) hr hF hb (fun H hO hS => hsp H a ns hlen hO hS) fun H e s' z => by
    obtain ⟨_, _, _, _, _, _, _, _, _, _, _, _, z⟩ := z
    exact z.elim
end G

set_option linter.all false
/-! Locks, plainly: pauses, the times of the rounds, how many rounds begin up to an end. -/
namespace M40
def LON : Int := 1000000000
/-- min(a, b), as the built-in gives it -/
def mn (a b : Int) : Int := if b < a then b else a
def pz (g p : Int) : Nat → Int
  | 0 => p
  | n + 1 => mn (pz g p n * g) 1000000000
def tz (g p : Int) : Nat → Int
  | 0 => 0
  | n + 1 => tz g p n + pz g p n
structure Ok (t p g : Int) : Prop where
  t1 : 1 ≤ t
  t9 : t ≤ 9
  p1 : 1 ≤ p
  p9 : p ≤ 1000
  g1 : 1 ≤ g
  g9 : g ≤ 9
theorem mul_le9 {a g : Int} (h0 : 1 ≤ a) (h1 : a ≤ 1000000000) (g1 : 1 ≤ g) (g9 : g ≤ 9) : a ≤ a * g ∧ a * g ≤ 9000000000 := by
  have h : g = 1 ∨ g = 2 ∨ g = 3 ∨ g = 4 ∨ g = 5 ∨ g = 6 ∨ g = 7 ∨ g = 8 ∨ g = 9 := by omega
  rcases h with rfl | rfl | rfl | rfl | rfl | rfl | rfl | rfl | rfl <;> omega
theorem mul_nn {t c : Int} {k : Nat} (t1 : 1 ≤ t) (t9 : t ≤ 9) (h : c ≤ t * k) : c ≤ 9 * k ∧ (0 : Int) ≤ k := by
  have h : t = 1 ∨ t = 2 ∨ t = 3 ∨ t = 4 ∨ t = 5 ∨ t = 6 ∨ t = 7 ∨ t = 8 ∨ t = 9 := by omega
  rcases h with rfl | rfl | rfl | rfl | rfl | rfl | rfl | rfl | rfl <;> omega
section
variable {t p g : Int} (o : Ok t p g)
include o
theorem pz_b : ∀ n, 1 ≤ pz g p n ∧ pz g p n ≤ 1000000000
  | 0 => ⟨o.p1, by have := o.p9; show p ≤ _; omega⟩
  | n + 1 => by
    have ⟨h1, h2⟩ := pz_b n
    have ⟨h3, h4⟩ := mul_le9 h1 h2 o.g1 o.g9
    show 1 ≤ mn _ _ ∧ mn _ _ ≤ _
    unfold mn
    split <;> omega
theorem tz_lt (n : Nat) : tz g p n < tz g p (n + 1) := by
  have := (pz_b o n).1
  show tz g p n < tz g p n + pz g p n
  omega
theorem tz_le : ∀ (k n : Nat), tz g p n + k ≤ tz g p (n + k)
  | 0, n => by simp
  | k + 1, n => by
    have h := tz_le k n
    have h2 := tz_lt o (n + k)
    have e : n + (k + 1) = n + k + 1 := rfl
    rw [e]
    omega
theorem tz_mono {n m : Nat} (h : n ≤ m) : tz g p n ≤ tz g p m := by
  have := tz_le o (m - n) n
  rw [Nat.add_sub_cancel' h] at this
  omega
theorem tz_mono' {n m : Nat} (h : tz g p n < tz g p m) : n < m := by
  rcases Nat.lt_or_ge n m with q | q
  · exact q
  · have := tz_mono o q
    omega
theorem tz_nn (n : Nat) : (0 : Int) ≤ tz g p n ∧ (n : Int) ≤ tz g p n := by
  have := tz_le o n 0
  rw [Nat.zero_add] at this
  have e : tz g p 0 = 0 := rfl
  omega
theorem tz_up : ∀ n : Nat, tz g p n ≤ 1000000000 * n
  | 0 => by show (0 : Int) ≤ _; omega
  | n + 1 => by
    have h := tz_up n
    have h2 := (pz_b o n).2
    show tz g p n + pz g p n ≤ _
    omega
/-- the pause is the same for ever -/
theorem pz_stays {n : Nat} (h : mn (pz g p n * g) 1000000000 = pz g p n) : ∀ k, pz g p (n + k) = pz g p n
  | 0 => rfl
  | k + 1 => by
    show mn (pz g p (n + k) * g) 1000000000 = _
    rw [pz_stays h k]
    exact h
theorem tz_stays {n : Nat} (h : mn (pz g p n * g) 1000000000 = pz g p n) : ∀ k : Nat, tz g p (n + k) = tz g p n + k * pz g p n
  | 0 => by simp
  | k + 1 => by
    show tz g p (n + k) + pz g p (n + k) = _
    rw [tz_stays h k, pz_stays o h k, Int.natCast_succ, Int.add_mul, Int.one_mul, Int.add_assoc]
end
/-- c rounds begin up to e -/
def Up (g p e : Int) (c : Nat) : Prop := 0 < c ∧ tz g p (c - 1) ≤ e ∧ e < tz g p c
theorem up_one {t p g e : Int} (o : Ok t p g) {c d : Nat} (h1 : Up g p e c) (h2 : Up g p e d) : c = d := by
  obtain ⟨a1, a2, a3⟩ := h1
  obtain ⟨b1, b2, b3⟩ := h2
  have h3 : d - 1 < c := tz_mono' o (by omega)
  have h4 : c - 1 < d := tz_mono' o (by omega)
  omega
theorem up_tz {t p g : Int} (o : Ok t p g) (m : Nat) : Up g p (tz g p m) (m + 1) := ⟨Nat.succ_pos _, Int.le_refl _, tz_lt o m⟩
theorem up_pred {t p g : Int} (o : Ok t p g) {m : Nat} (h : 0 < m) : Up g p (tz g p m - 1) m := by
  refine ⟨h, ?_, by omega⟩
  have := tz_lt o (m - 1)
  rw [Nat.sub_add_cancel h] at this
  omega
/-- the count over a list of the first times -/
theorem up_count {t p g e : Int} (o : Ok t p g) {c : Nat} (h : Up g p e c) : ∀ n : Nat, (((List.range n).map (tz g p)).filter fun z => decide (z ≤ e)).length = min c n
  | 0 => by simp
  | n + 1 => by
    rw [List.range_succ, List.map_append, List.filter_append, List.length_append, up_count o h n]
    obtain ⟨a1, a2, a3⟩ := h
    by_cases hn : n < c
    · have hz : tz g p n ≤ e := Int.le_trans (tz_mono o (by omega)) a2
      simp [hz]
      omega
    · have hz : ¬ tz g p n ≤ e := by
        have := tz_mono o (Nat.le_of_not_lt hn)
        omega
      simp [hz]
      omega
/-- the end of most_refusals's loop: the pause stays, the time is not behind the end -/
theorem up_stays {t p g e : Int} (o : Ok t p g) {n : Nat} (hs : mn (pz g p n * g) 1000000000 = pz g p n) (h : tz g p n ≤ e) : Up g p e (n + ((e - tz g p n) / pz g p n + 1).toNat) := by
  have hb := pz_b o n
  have h1 := Int.emod_add_mul_ediv (e - tz g p n) (pz g p n)
  have h2 := Int.emod_nonneg (e - tz g p n) (show pz g p n ≠ 0 by omega)
  have h3 := Int.emod_lt_of_pos (e - tz g p n) (show 0 < pz g p n by omega)
  have h4 : 0 ≤ (e - tz g p n) / pz g p n := Int.ediv_nonneg (by omega) (by omega)
  generalize hd : (e - tz g p n) / pz g p n = d at *
  obtain ⟨k, rfl⟩ : ∃ k : Nat, d = k := ⟨d.toNat, by omega⟩
  have e1 : ((k : Int) + 1).toNat = k + 1 := by omega
  rw [e1]
  refine ⟨by omega, ?_, ?_⟩
  · show tz g p (n + k) ≤ e
    rw [tz_stays o hs k]
    have e2 : pz g p n * (k : Int) = (k : Int) * pz g p n := Int.mul_comm _ _
    omega
  · rw [tz_stays o hs (k + 1), Int.natCast_succ, Int.add_mul, Int.one_mul]
    have e2 : pz g p n * (k : Int) = (k : Int) * pz g p n := Int.mul_comm _ _
    omega
end M40

set_option Elab.async false
set_option linter.all false
set_option maxRecDepth 100000
set_option maxHeartbeats 4000000
namespace T
open PySem PySem.Spec L2 G M40
def top (i : Nat) : Stmt := PySem.Challenge.pw_loginstacks_k40_whole_bounds_of_locks.main.body.getD i (.Pass ⟨0, 0, 0, 0⟩)
local macro_rules | `(tactic| walk_at "ne") => `(tactic| first
  | assumption
  | (apply Ne.symm; assumption)
  | ((refine' ne_of_none ?gn1 ?gn2); (case gn2 => assumption); (case gn1 => walk_at "hp"))
  | (apply Ne.symm; (refine' ne_of_none ?gn1 ?gn2); (case gn2 => assumption); (case gn1 => walk_at "hp")))
local macro_rules | `(tactic| walk_at "hp") => `(tactic| first
  | assumption
  | exact upd_same
  | (refine Eq.trans (upd_ne ?_) ?_ <;> first | (walk_at "ne"; done) | walk_at "hp"))
local macro_rules | `(tactic| walk_at "side") => `(tactic| first
  | assumption
  | exact divW (by assumption) (by assumption)
  | exact divW (by decide) (by decide)
  | (show (0 : Int) < _; first | decide | omega)
  | exact Or.inl ⟨by omega, by omega⟩
  | exact Or.inr ⟨by omega, by omega⟩
  | exact divW (by omega) (by omega)
  | exact ⟨by decide, by decide, by decide⟩)
local macro_rules | `(tactic| walk_at "go1") => `(tactic| first
  | with_reducible refine s_seq ?_
  | with_reducible refine s_asg ?_
  | with_reducible refine s_if ?_
  | with_reducible refine s_ret ?_
  | with_reducible refine s_drop ?_
  | with_reducible refine s_next ?_
  | with_reducible refine g_name ?_
  | with_reducible refine i_cons ?_
  | with_reducible refine i_nil ?_
  | with_reducible refine i_c ?_
  | ((with_reducible refine' i_var ?gvar ?_); (case gvar => rfl))
  | with_reducible refine i_op ?_
  | with_reducible refine i_test ?_
  | with_reducible refine i_exb ?_
  | with_reducible refine i_I0 ?_
  | ((with_reducible refine' i_I ?gside ?_); (case gside => walk_at "side"))
  | with_reducible refine i_un ?_
  | with_reducible refine i_U ?_
  | with_reducible refine i_cb ?_
  | with_reducible refine i_call ?_
  | with_reducible refine i_andV ?_
  | with_reducible refine i_orV ?_
  | with_reducible refine i_notV ?_
  | with_reducible refine i_chain ?_
  | with_reducible refine i_tnot ?_
  | with_reducible refine i_tand ?_
  | with_reducible refine i_tor ?_
  | with_reducible refine i_B ?_
  | with_reducible refine i_if ?_
  | with_reducible refine i_tup ?_
  | with_reducible refine i_lst ?_
  | ((with_reducible refine' e_len ?gk ?_); (case gk => rfl))
  | with_reducible refine i_yes ?_
  | with_reducible refine iteNT ?_
  | with_reducible refine iteNF ?_
  | with_reducible refine s_for ?_
  | with_reducible refine i_rng1 ?_
  | with_reducible refine i_rng2 ?_
  | with_reducible refine i_ilist ?_
  | with_reducible refine i_itup ?_
  | with_reducible refine s_par ?_
  | with_reducible refine e_par ?_
  | with_reducible refine s_par3 ?_
  | with_reducible refine e_par3 ?_
  | with_reducible refine g_sub ?_
  | with_reducible refine s_fld ?_
  | with_reducible refine i_fld ?_
  | with_reducible refine i_prop ?_
  | with_reducible refine i_make ?_
  | with_reducible refine i_meth ?_
  | with_reducible refine i_bm ?_
  | with_reducible refine i_bm0 ?_
  | with_reducible refine i_lc ?_
  | with_reducible refine i_eqI ?_
  | with_reducible refine i_neI ?_
  | with_reducible refine i_int1 ?_
  | with_reducible refine i_min2 ?_
  | with_reducible refine i_max2 ?_
  | ((with_reducible refine' i_lenL (.of ?gh) ?_); (case gh => walk_at "hp"))
  | ((with_reducible refine' i_lenT (.of ?gh) ?_); (case gh => walk_at "hp"))
  | ((with_reducible refine' i_ixL (.of ?gh) ?gi ?_); (case gh => walk_at "hp"); (case gi => rfl))
  | ((with_reducible refine' i_ixT (.of ?gh) ?gi ?_); (case gh => walk_at "hp"); (case gi => rfl))
  | ((with_reducible refine' i_setL ?gh ?gi ?_); (case gh => walk_at "hp"); (case gi => rfl))
  | with_reducible refine iteT ?_
  | with_reducible refine iteF ?_)
local macro_rules | `(tactic| walk_at "go") => `(tactic| repeat walk_at "go1")
local macro_rules | `(tactic| walk_at "gos") => `(tactic| repeat ((fail_if_success (with_reducible refine s_seqIf ?_)); walk_at "go1"))

abbrev s_is_number : Stmt := (top 5)
def d_is_number : He.DefD := ⟨("is_number", none), "is_number", "is_number", defArgs s_is_number, defBody s_is_number, defScope s_is_number, [], []⟩
abbrev N_is_number : List Str := ["thing", "low", "high"]
abbrev P_is_number : List Str := ["thing", "low", "high"]
theorem sc_is_number : FnScope N_is_number P_is_number (defScope s_is_number) := ⟨rfl, rfl, rfl, by decide +kernel, rfl, by decide +kernel, by decide +kernel⟩
abbrev Fun_is_number (K : PySem.W.Frag) (f : Addr) (fd : FuncData) : Prop := FunD K "is_number" "is_number" (defArgs s_is_number) (defBody s_is_number) (defScope s_is_number) [] [] f fd
abbrev s_l_taken : Stmt := (top 17)
def d_l_taken : He.DefD := ⟨("_law_taken", none), "_law_taken", "_law_taken", defArgs s_l_taken, defBody s_l_taken, defScope s_l_taken, [], []⟩
abbrev N_l_taken : List Str := ["_law_row", "_law_many", "_law_found", "_law_cell"]
abbrev P_l_taken : List Str := ["_law_row", "_law_many"]
theorem sc_l_taken : FnScope N_l_taken P_l_taken (defScope s_l_taken) := ⟨rfl, rfl, rfl, by decide +kernel, rfl, by decide +kernel, by decide +kernel⟩
abbrev Fun_l_taken (K : PySem.W.Frag) (f : Addr) (fd : FuncData) : Prop := FunD K "_law_taken" "_law_taken" (defArgs s_l_taken) (defBody s_l_taken) (defScope s_l_taken) [] [] f fd
abbrev s_Lock_init : Stmt := (inClass (top 13) 0)
def d_Lock_init : He.DefD := ⟨("Lock", some "__init__"), "__init__", "Lock.__init__", defArgs s_Lock_init, defBody s_Lock_init, defScope s_Lock_init, [], []⟩
abbrev N_Lock_init : List Str := ["self", "tries", "pause", "growth", "rows", "part", "value", "most"]
abbrev P_Lock_init : List Str := ["self", "tries", "pause", "growth"]
theorem sc_Lock_init : FnScope N_Lock_init P_Lock_init (defScope s_Lock_init) := ⟨rfl, rfl, rfl, by decide +kernel, rfl, by decide +kernel, by decide +kernel⟩
abbrev Fun_Lock_init (K : PySem.W.Frag) (f : Addr) (fd : FuncData) : Prop := FunD K "__init__" "Lock.__init__" (defArgs s_Lock_init) (defBody s_Lock_init) (defScope s_Lock_init) [] [] f fd
abbrev s_Lock_tries : Stmt := (inClass (top 13) 1)
def d_Lock_tries : He.DefD := ⟨("Lock", some "tries"), "tries", "Lock.tries", defArgs s_Lock_tries, defBody s_Lock_tries, defScope s_Lock_tries, [], []⟩
abbrev N_Lock_tries : List Str := ["self"]
abbrev P_Lock_tries : List Str := ["self"]
theorem sc_Lock_tries : FnScope N_Lock_tries P_Lock_tries (defScope s_Lock_tries) := ⟨rfl, rfl, rfl, by decide +kernel, rfl, by decide +kernel, by decide +kernel⟩
abbrev Fun_Lock_tries (K : PySem.W.Frag) (f : Addr) (fd : FuncData) : Prop := FunD K "tries" "Lock.tries" (defArgs s_Lock_tries) (defBody s_Lock_tries) (defScope s_Lock_tries) [] [] f fd
abbrev s_Lock_growth : Stmt := (inClass (top 13) 3)
def d_Lock_growth : He.DefD := ⟨("Lock", some "growth"), "growth", "Lock.growth", defArgs s_Lock_growth, defBody s_Lock_growth, defScope s_Lock_growth, [], []⟩
abbrev N_Lock_growth : List Str := ["self"]
abbrev P_Lock_growth : List Str := ["self"]
theorem sc_Lock_growth : FnScope N_Lock_growth P_Lock_growth (defScope s_Lock_growth) := ⟨rfl, rfl, rfl, by decide +kernel, rfl, by decide +kernel, by decide +kernel⟩
abbrev Fun_Lock_growth (K : PySem.W.Frag) (f : Addr) (fd : FuncData) : Prop := FunD K "growth" "Lock.growth" (defArgs s_Lock_growth) (defBody s_Lock_growth) (defScope s_Lock_growth) [] [] f fd
abbrev s_Lock_longer : Stmt := (inClass (top 13) 5)
def d_Lock_longer : He.DefD := ⟨("Lock", some "longer"), "longer", "Lock.longer", defArgs s_Lock_longer, defBody s_Lock_longer, defScope s_Lock_longer, [], []⟩
abbrev N_Lock_longer : List Str := ["self", "pause"]
abbrev P_Lock_longer : List Str := ["self", "pause"]
theorem sc_Lock_longer : FnScope N_Lock_longer P_Lock_longer (defScope s_Lock_longer) := ⟨rfl, rfl, rfl, by decide +kernel, rfl, by decide +kernel, by decide +kernel⟩
abbrev Fun_Lock_longer (K : PySem.W.Frag) (f : Addr) (fd : FuncData) : Prop := FunD K "longer" "Lock.longer" (defArgs s_Lock_longer) (defBody s_Lock_longer) (defScope s_Lock_longer) [] [] f fd
abbrev s_most_refusals : Stmt := (top 14)
def d_most_refusals : He.DefD := ⟨("most_refusals", none), "most_refusals", "most_refusals", defArgs s_most_refusals, defBody s_most_refusals, defScope s_most_refusals, [], []⟩
abbrev N_most_refusals : List Str := ["lock", "end", "tries", "pause", "growth", "found", "time"]
abbrev P_most_refusals : List Str := ["lock", "end"]
theorem sc_most_refusals : FnScope N_most_refusals P_most_refusals (defScope s_most_refusals) := ⟨rfl, rfl, rfl, by decide +kernel, rfl, by decide +kernel, by decide +kernel⟩
abbrev Fun_most_refusals (K : PySem.W.Frag) (f : Addr) (fd : FuncData) : Prop := FunD K "most_refusals" "most_refusals" (defArgs s_most_refusals) (defBody s_most_refusals) (defScope s_most_refusals) [] [] f fd
abbrev s_least_time : Stmt := (top 15)
def d_least_time : He.DefD := ⟨("least_time", none), "least_time", "least_time", defArgs s_least_time, defBody s_least_time, defScope s_least_time, [], []⟩
abbrev N_least_time : List Str := ["lock", "count", "tries", "pause", "growth", "rounds", "time"]
abbrev P_least_time : List Str := ["lock", "count"]
theorem sc_least_time : FnScope N_least_time P_least_time (defScope s_least_time) := ⟨rfl, rfl, rfl, by decide +kernel, rfl, by decide +kernel, by decide +kernel⟩
abbrev Fun_least_time (K : PySem.W.Frag) (f : Addr) (fd : FuncData) : Prop := FunD K "least_time" "least_time" (defArgs s_least_time) (defBody s_least_time) (defScope s_least_time) [] [] f fd
abbrev s_law : Stmt := (top 18)
def d_law : He.DefD := ⟨("law", none), "law", "law", defArgs s_law, defBody s_law, defScope s_law, [], []⟩
abbrev N_law : List Str := ["_law_script", "_law_row", "_law_turn", "_law_pause", "_law_lock", "_law_times", "_law_k", "_law_again", "_law_by", "_law_end", "_law_due", "_law_count", "_law_first", "_law_many", "_law_time"]
abbrev P_law : List Str := ["_law_script"]
theorem sc_law : FnScope N_law P_law (defScope s_law) := ⟨rfl, rfl, rfl, by decide +kernel, rfl, by decide +kernel, by decide +kernel⟩
abbrev Fun_law (K : PySem.W.Frag) (f : Addr) (fd : FuncData) : Prop := FunD K "law" "law" (defArgs s_law) (defBody s_law) (defScope s_law) [] [] f fd
structure Txt (K : PySem.W.Frag) (mg : Str → Option Value) (CL : Addr) : Prop where
  b_isinstance : mg "isinstance" = none
  b_int : mg "int" = none
  b_bool : mg "bool" = none
  b_len : mg "len" = none
  b_min : mg "min" = none
  b_max : mg "max" = none
  b_range : mg "range" = none
  c_MOST_TRIES : GlV mg "MOST_TRIES" (.int 9)
  c_MOST_PAUSE : GlV mg "MOST_PAUSE" (.int 1000)
  c_MOST_GROWTH : GlV mg "MOST_GROWTH" (.int 9)
  c_LONGEST : GlV mg "LONGEST" (.int 1000000000)
  c_MOST_END : GlV mg "MOST_END" (.int 1000000000000000)
  c_MOST_COUNT : GlV mg "MOST_COUNT" (.int 1000000000)
  cl : Cls K CL
  n_bounds : NoAttr K CL "bounds"
/-- a lock at x -/
def LockAt (CL : Addr) (H : Hp) (x : Addr) (t p g : Int) : Prop := ∃ dx b, H x = some (.ins CL dx [("bounds", .ref b)]) ∧ H b = some (.tup [.int t, .int p, .int g])
theorem LockAt.same {CL : Addr} {H H' : Hp} {x : Addr} {t p g : Int} (h : LockAt CL H x t p g) (s : Same H H') : LockAt CL H' x t p g := by
  obtain ⟨dx, b, h1, h2⟩ := h
  exact ⟨dx, b, s _ _ h1, s _ _ h2⟩
theorem LockAt.but {CL : Addr} {H H' : Hp} {x r : Addr} {t p g : Int} {xs : List V} (h : LockAt CL H x t p g) (hr : H r = some (.lst xs)) (s : But r H H') : LockAt CL H' x t p g := by
  obtain ⟨dx, b, h1, h2⟩ := h
  exact ⟨dx, b, s _ _ (ne_of h1 hr (by intro z; cases z)) h1, s _ _ (ne_of h2 hr (by intro z; cases z)) h2⟩
def spLockInit (CL : Addr) : Sp := Sp4 fun a b c d H Q _ => ∃ (x dx : Addr) (t p g : Int), a = .ref x ∧ b = .int t ∧ c = .int p ∧ d = .int g ∧ Ok t p g ∧ H x = some (.ins CL dx []) ∧ ∀ H', LockAt CL H' x t p g → But x H H' → Q .non H'
def spTries (CL : Addr) : Sp := Sp1 fun a H Q _ => ∃ (x : Addr) (t p g : Int), a = .ref x ∧ LockAt CL H x t p g ∧ Q (.int t) H
def spGrowth (CL : Addr) : Sp := Sp1 fun a H Q _ => ∃ (x : Addr) (t p g : Int), a = .ref x ∧ LockAt CL H x t p g ∧ Q (.int g) H
def spLonger (CL : Addr) : Sp := Sp2 fun a b H Q _ => ∃ (x : Addr) (t p g z : Int), a = .ref x ∧ b = .int z ∧ Ok t p g ∧ 0 ≤ z ∧ z ≤ 1000000000 ∧ LockAt CL H x t p g ∧ Q (.int (mn (z * g) 1000000000)) H
def spMost (CL : Addr) : Sp := Sp2 fun a b H Q _ => ∃ (x : Addr) (t p g e : Int), a = .ref x ∧ b = .int e ∧ Ok t p g ∧ 0 ≤ e ∧ e ≤ 1000000000000000 ∧ LockAt CL H x t p g ∧ ∀ (c : Nat) (H' : Hp), Up g p e c → Same H H' → Q (.int (t * c)) H'
def spLeast (CL : Addr) : Sp := Sp2 fun a b H Q _ => ∃ (x : Addr) (t p g c : Int), a = .ref x ∧ b = .int c ∧ Ok t p g ∧ 1 ≤ c ∧ c ≤ 1000000000 ∧ LockAt CL H x t p g ∧ ∀ H', Same H H' → Q (.int (tz g p ((c - 1) / t).toNat)) H'
section
variable {P : Program} {w : World} {K : PySem.W.Frag} {mg : Str → Option Value} {base : Heap} {CL : Addr}
theorem ok_is_number (T : Txt K mg CL)  {f : Addr} {fd : FuncData} (F : Fun_is_number K f fd) : KeepsAt P w K mg base 1 P_is_number (spIsNumber K) f := by
  refine keeps (k := 0) F sc_is_number len3 (fun _ _ _ _ _ _ us hl => match us, hl with | [_, _, _], _ => rfl) (fun cdv A outer s H vs Q E hr hsp => ?_)
  have nd := sc_is_number.nd
  refine ⟨_, (pss_one (ps_ret (pe_and (pe_callB call_isi (by rfl) T.b_isinstance bt_isinstance (pa_cons (pv 0) (pa_cons (pe_ty (by rfl) T.b_int bt_int) pa_nil))) (pe_and (pe_not (pe_callB call_isi (by rfl) T.b_isinstance bt_isinstance (pa_cons (pv 0) (pa_cons (pe_ty (by rfl) T.b_bool bt_bool) pa_nil)))) (pe_one (pe_chain op_le op_le (pv 1) (pv 0) (pv 2))))))), ?_⟩
  obtain ⟨a, b, c, rfl, lo, hi, rfl, rfl, p, q⟩ := hsp
  cases p with
  | int i =>
    walk_at "go"
    refine i_isi (.base (.int i)) kb_int_int ?_
    walk_at "go"
    refine i_isi (.base (.int i)) kb_int_bool ?_
    walk_at "go"
    refine iteB (fun c => ?_) (fun c => ?_)
    · walk_at "go"
      have e : decide (i ≤ hi) = numIn (.int i) lo hi := by
        show _ = (decide (lo ≤ i) && decide (i ≤ hi))
        rw [c, Bool.true_and]
      rw [e]
      exact q
    · have e : false = numIn (.int i) lo hi := by
        show _ = (decide (lo ≤ i) && decide (i ≤ hi))
        rw [c, Bool.false_and]
      rw [e]
      exact q
  | bl b =>
    walk_at "go"
    refine i_isi (.base (.bl b)) kb_bool_int ?_
    walk_at "go"
    refine i_isi (.base (.bl b)) kb_bool_bool ?_
    walk_at "go"
    exact q
  | non =>
    walk_at "go"
    refine i_isi (.base .non) kb_non_int ?_
    walk_at "go"
    exact q
  | str z =>
    walk_at "go"
    refine i_isi (.base (.str z)) kb_str_int ?_
    walk_at "go"
    exact q
  | tup a h =>
    walk_at "go"
    refine i_isi h kb_tuple_int ?_
    walk_at "go"
    exact q
theorem ok_l_taken (T : Txt K mg CL)  {f : Addr} {fd : FuncData} (F : Fun_l_taken K f fd) : KeepsAt P w K mg base 1 P_l_taken (spTaken K) f := by
  refine keeps (k := 0) F sc_l_taken len2 (fun _ _ _ _ _ _ us hl => match us, hl with | [_, _], _ => rfl) (fun cdv A outer s H vs Q E hr hsp => ?_)
  have nd := sc_l_taken.nd
  refine ⟨_, (pss_cons (ps_if (pt_cmpR op_gt (pe_ix ix_seq (pv 0) pe_int (fun _ _ => rfl)) pe_int (nomark _)) (pss_cons (ps_set (i := 2) nd rfl (by first | exact Or.inl rfl | exact Or.inr rfl) (pe_op op_mod (pe_callTy c_int1 (by rfl) T.b_int bt_int (pa_cons (pe_ix ix_seq (pv 0) pe_int (fun _ _ => rfl)) pa_nil)) (pv 1))) (pss_cons (ps_asg (pe_op op_fdivW (pe_ix ix_seq (pv 0) pe_int (fun _ _ => rfl)) (pv 1)) (pg_sub (pv 0) pe_int set_list)) (pss_one (ps_ret (pv 2))))) pss_nil) (pss_cons (ps_asg (pe_op op_add (pe_ix ix_seq (pv 0) pe_int (fun _ _ => rfl)) pe_int) (pg_sub (pv 0) pe_int set_list)) (pss_cons (ps_if (pt_cmpR op_gt (pe_ix ix_seq (pv 0) pe_int (fun _ _ => rfl)) (pe_callB c_len (by rfl) T.b_len bt_len (pa_cons (pe_ix ix_seq (pv 0) pe_int (fun _ _ => rfl)) pa_nil)) (nomark _)) (pss_cons (ps_asg (pe_op op_mod (pe_callTy c_int1 (by rfl) T.b_int bt_int (pa_cons (pe_op op_add (pe_op op_mul (pe_ix ix_seq (pv 0) pe_int (fun _ _ => rfl)) pe_int) pe_int) pa_nil)) pe_int) (pg_sub (pv 0) pe_int set_list)) (pss_one (ps_ret (pe_op op_mod (pe_callTy c_int1 (by rfl) T.b_int bt_int (pa_cons (pe_op op_fdivW (pe_ix ix_seq (pv 0) pe_int (fun _ _ => rfl)) pe_int) pa_nil)) (pv 1))))) pss_nil) (pss_cons (ps_set (i := 3) nd rfl (by first | exact Or.inl rfl | exact Or.inr rfl) (pe_ix ix_seq (pe_ix ix_seq (pv 0) pe_int (fun _ _ => rfl)) (pe_op op_sub (pe_ix ix_seq (pv 0) pe_int (fun _ _ => rfl)) pe_int) (fun _ _ => rfl))) (pss_cons (ps_asg (pe_op op_mod (pe_callTy c_int1 (by rfl) T.b_int bt_int (pa_cons (pe_op op_add (pe_op op_add (pe_op op_mul (pe_ix ix_seq (pv 0) pe_int (fun _ _ => rfl)) pe_int) (pv 3)) pe_int) pa_nil)) pe_int) (pg_sub (pv 0) pe_int set_list)) (pss_cons (ps_if (pt_cmpR op_ge (pv 3) (pe_op op_pow pe_int pe_int) (nomark _)) (pss_one (ps_asg (pe_op op_fdivW (pv 3) (pv 1)) (pg_sub (pv 0) pe_int set_list))) pss_nil) (pss_one (ps_ret (pe_op op_mod (pe_callTy c_int1 (by rfl) T.b_int bt_int (pa_cons (pv 3) pa_nil)) (pv 1)))))))))), ?_⟩
  obtain ⟨_, _, rfl, r, n, rfl, rfl, h0, h1, ⟨a, ns, i, s, g, hR, hS, hi⟩, q⟩ := hsp
  have fin : ∀ (c i' s' g' : Int) (H' : Hp), 0 ≤ i' → But r H H' → H' r = some (.lst [.ref a, .int i', .int s', .int g']) → Q (.int (c % n)) H' := fun c i' s' g' H' hi' b e =>
    q _ _ (Int.emod_nonneg _ (by omega)) (Int.emod_lt_of_pos _ h0) ⟨a, ns, i', s', g', e, hS.but hR lst_frz b, hi'⟩ b
  walk_at "go"
  refine iteB (fun c => ?_) (fun c => ?_)
  · walk_at "go"
    exact fin _ _ _ _ _ hi (But.upd .refl) upd_same
  · walk_at "go"
    have hS1 := (hS.but (r := r) (H' := upd H r (.lst [.ref a, .int (i + 1), .int s, .int g])) hR lst_frz (But.upd .refl)).seq
    refine i_lenL hS1 ?_
    walk_at "go"
    refine iteB (fun c => ?_) (fun c => ?_)
    · walk_at "go"
      exact fin _ _ _ _ _ (by omega) (But.upd (But.upd .refl)) upd_same
    · have c := of_decide_eq_false c
      rw [List.length_map] at c
      obtain ⟨z, hz⟩ : ∃ z, ns[i.toNat]? = some z := ⟨_, List.getElem?_eq_getElem (by omega)⟩
      walk_at "go"
      refine i_ixL (v := .int z) hS1 ?_ ?_
      · have e : (i + 1 - 1 : Int) = ((i.toNat : Nat) : Int) := by omega
        rw [e]
        exact atI_nat (by rw [List.getElem?_map, hz]; rfl)
      walk_at "go"
      refine iteB (fun c => ?_) (fun c => ?_)
      · walk_at "go"
        exact fin _ _ _ _ _ (by omega) (But.upd (But.upd (But.upd .refl))) upd_same
      · walk_at "go"
        exact fin _ _ _ _ _ (by omega) (But.upd (But.upd .refl)) upd_same
theorem ok_Lock_init (T : Txt K mg CL) (D_is_number : DefOk P w K mg base 1 "is_number" P_is_number (spIsNumber K)) {f : Addr} {fd : FuncData} (F : Fun_Lock_init K f fd) : KeepsAt P w K mg base 2 P_Lock_init (spLockInit CL) f := by
  refine keeps (k := 1) F sc_Lock_init len4 (fun _ _ _ _ _ _ us hl => match us, hl with | [_, _, _, _], _ => rfl) (fun cdv A outer s H vs Q E hr hsp => ?_)
  have nd := sc_Lock_init.nd
  refine ⟨_, (pss_cons (ps_set (i := 4) nd rfl (by first | exact Or.inl rfl | exact Or.inr rfl) (pe_tup (pa_cons (pe_tup (pa_cons pe_str (pa_cons (pv 1) (pa_cons (pe_glv T.c_MOST_TRIES (by rfl)) pa_nil)))) (pa_cons (pe_tup (pa_cons pe_str (pa_cons (pv 2) (pa_cons (pe_glv T.c_MOST_PAUSE (by rfl)) pa_nil)))) (pa_cons (pe_tup (pa_cons pe_str (pa_cons (pv 3) (pa_cons (pe_glv T.c_MOST_GROWTH (by rfl)) pa_nil)))) pa_nil))))) (pss_cons (ps_for (passes_of rfl) (by rfl) (pi_tup (pv 4)) (pg_tup (by rfl) (pgs_cons (pg_name (i := 5) nd rfl (by first | exact Or.inl rfl | exact Or.inr rfl)) (pgs_cons (pg_name (i := 6) nd rfl (by first | exact Or.inl rfl | exact Or.inr rfl)) (pgs_cons (pg_name (i := 7) nd rfl (by first | exact Or.inl rfl | exact Or.inr rfl)) pgs_nil)))) (pss_one (ps_if (pt_not (pt_val (pe_callD D_is_number (hr.mono (by decide)) (passX rfl (takes_of rfl rfl rfl rfl)) (pa_cons (pv 6) (pa_cons pe_int (pa_cons (pv 7) pa_nil)))))) (pss_one ps_never) pss_nil))) (pss_one (ps_fld (pv 0) (pe_tup (pa_cons (pv 1) (pa_cons (pv 2) (pa_cons (pv 3) pa_nil)))) rfl)))), ?_⟩
  obtain ⟨_, _, _, _, rfl, x, dx, t, p, g, rfl, rfl, rfl, rfl, o, hx, q⟩ := hsp
  obtain ⟨o1, o2, o3, o4, o5, o6⟩ := id o
  walk_at "go"
  refine fun b1 n1 => ?_
  walk_at "go"
  refine fun b2 n2 => ?_
  walk_at "go"
  refine fun b3 n3 => ?_
  walk_at "go"
  refine fun b4 n4 => ?_
  walk_at "go"
  generalize hH : upd (upd (upd (upd H b1 _) b2 _) b3 _) b4 _ = H4
  have h1 : H4 b1 = some (.tup [.str "tries", .int t, .int 9]) := by rw [← hH]; walk_at "hp"
  have h2 : H4 b2 = some (.tup [.str "pause", .int p, .int 1000]) := by rw [← hH]; walk_at "hp"
  have h3 : H4 b3 = some (.tup [.str "growth", .int g, .int 9]) := by rw [← hH]; walk_at "hp"
  have h4 : H4 b4 = some (.tup [.ref b1, .ref b2, .ref b3]) := by rw [← hH]; walk_at "hp"
  have s4 : Same H H4 := by rw [← hH]; exact Same.new (Same.new (Same.new (Same.new (Same.refl _) n1) n2) n3) n4
  refine ⟨b4, rfl, ⟨_, .of h4⟩, l_tup (xs := [.ref b1, .ref b2, .ref b3]) (fun i σ H' => H' = H4 ∧ ∃ s5 s6 s7 : Option V, σ = [some (.ref x), some (.int t), some (.int p), some (.int g), some (.ref b4), s5, s6, s7])
    ⟨rfl, none, none, none, rfl⟩ (fun i σ H' _ ⟨e, _⟩ => by rw [e]; exact .of h4) ?_ ?_⟩
  · rintro i y σ H' hi ⟨rfl, s5, s6, s7, rfl⟩
    have hy : ∃ b s v m, y = .ref b ∧ H' b = some (.tup [.str s, .int v, .int m]) ∧ 1 ≤ v ∧ v ≤ m := by
      match i, hi with
      | 0, hi => cases hi; exact ⟨_, _, _, _, rfl, h1, by omega, by omega⟩
      | 1, hi => cases hi; exact ⟨_, _, _, _, rfl, h2, by omega, by omega⟩
      | 2, hi => cases hi; exact ⟨_, _, _, _, rfl, h3, by omega, by omega⟩
    obtain ⟨b, s, v, m, rfl, hb, v1, v2⟩ := hy
    refine g_tup (.of hb) rfl ?_
    refine g_cons ?_
    walk_at "go"
    refine g_cons ?_
    walk_at "go"
    refine g_cons ?_
    walk_at "go"
    refine g_nil ?_
    walk_at "go"
    refine i_spIsNumber (.int v) ?_
    have e : numIn (.int v) 1 m = true := by unfold numIn; simp [v1, v2]
    rw [e]
    walk_at "go"
    exact ⟨rfl, _, _, _, rfl⟩
  · rintro σ H' ⟨rfl, s5, s6, s7, rfl⟩
    walk_at "go"
    refine fun b5 n5 => ?_
    walk_at "go"
    have hx4 := s4 _ _ hx
    refine e_fld (C := CL) (dx := dx) (fs := []) (by walk_at "hp") T.cl T.n_bounds (by decide) ?_
    exact q _ ⟨dx, b5, upd_same, by walk_at "hp"⟩ (But.upd (But.new (But.of_same s4) n5))
theorem ok_Lock_tries (T : Txt K mg CL)  {f : Addr} {fd : FuncData} (F : Fun_Lock_tries K f fd) : KeepsAt P w K mg base 1 P_Lock_tries (spTries CL) f := by
  refine keeps (k := 0) F sc_Lock_tries len1 (fun _ _ _ _ _ _ us hl => match us, hl with | [_], _ => rfl) (fun cdv A outer s H vs Q E hr hsp => ?_)
  have nd := sc_Lock_tries.nd
  refine ⟨_, (pss_one (ps_ret (pe_ix ix_seq (pe_fld (pv 0) rfl) pe_int (fun _ _ => rfl)))), ?_⟩
  obtain ⟨_, rfl, x, t, p, g, rfl, ⟨dx, b, h1, h2⟩, q⟩ := hsp
  walk_at "go"
  refine i_exfld h1 T.cl T.n_bounds rfl ?_
  walk_at "go"
  exact q
theorem ok_Lock_growth (T : Txt K mg CL)  {f : Addr} {fd : FuncData} (F : Fun_Lock_growth K f fd) : KeepsAt P w K mg base 1 P_Lock_growth (spGrowth CL) f := by
  refine keeps (k := 0) F sc_Lock_growth len1 (fun _ _ _ _ _ _ us hl => match us, hl with | [_], _ => rfl) (fun cdv A outer s H vs Q E hr hsp => ?_)
  have nd := sc_Lock_growth.nd
  refine ⟨_, (pss_one (ps_ret (pe_ix ix_seq (pe_fld (pv 0) rfl) pe_int (fun _ _ => rfl)))), ?_⟩
  obtain ⟨_, rfl, x, t, p, g, rfl, ⟨dx, b, h1, h2⟩, q⟩ := hsp
  walk_at "go"
  refine i_exfld h1 T.cl T.n_bounds rfl ?_
  walk_at "go"
  exact q
theorem ok_Lock_longer (T : Txt K mg CL)  {f : Addr} {fd : FuncData} (F : Fun_Lock_longer K f fd) : KeepsAt P w K mg base 1 P_Lock_longer (spLonger CL) f := by
  refine keeps (k := 0) F sc_Lock_longer len2 (fun _ _ _ _ _ _ us hl => match us, hl with | [_, _], _ => rfl) (fun cdv A outer s H vs Q E hr hsp => ?_)
  have nd := sc_Lock_longer.nd
  refine ⟨_, (pss_one (ps_ret (pe_callB (c_min2 rfl) (by rfl) T.b_min bt_min (pa_cons (pe_op op_mul (pv 1) (pe_ix ix_seq (pe_fld (pv 0) rfl) pe_int (fun _ _ => rfl))) (pa_cons (pe_glv T.c_LONGEST (by rfl)) pa_nil))))), ?_⟩
  obtain ⟨_, _, rfl, x, t, p, g, z, rfl, rfl, o, z0, z1, ⟨dx, b, h1, h2⟩, q⟩ := hsp
  walk_at "go"
  refine i_exfld h1 T.cl T.n_bounds rfl ?_
  walk_at "go"
  exact q
theorem ok_most_refusals (T : Txt K mg CL) (D_is_number : DefOk P w K mg base 1 "is_number" P_is_number (spIsNumber K)) (D_Lock_longer : MethOk P w K mg base 1 CL "longer" P_Lock_longer (spLonger CL)) {f : Addr} {fd : FuncData} (F : Fun_most_refusals K f fd) : KeepsAt P w K mg base 2 P_most_refusals (spMost CL) f := by
  refine keeps (k := 1) F sc_most_refusals len2 (fun _ _ _ _ _ _ us hl => match us, hl with | [_, _], _ => rfl) (fun cdv A outer s H vs Q E hr hsp => ?_)
  have nd := sc_most_refusals.nd
  refine ⟨_, (pss_cons (ps_if (pt_not (pt_val (pe_callD D_is_number (hr.mono (by decide)) (passX rfl (takes_of rfl rfl rfl rfl)) (pa_cons (pv 1) (pa_cons pe_int (pa_cons (pe_glv T.c_MOST_END (by rfl)) pa_nil)))))) (pss_one ps_never) pss_nil) (pss_cons (ps_asg (pe_fld (pv 0) rfl) (pg_tup (by rfl) (pgs_cons (pg_name (i := 2) nd rfl (by first | exact Or.inl rfl | exact Or.inr rfl)) (pgs_cons (pg_name (i := 3) nd rfl (by first | exact Or.inl rfl | exact Or.inr rfl)) (pgs_cons (pg_name (i := 4) nd rfl (by first | exact Or.inl rfl | exact Or.inr rfl)) pgs_nil))))) (pss_cons (ps_asg (pe_tup (pa_cons pe_int (pa_cons pe_int pa_nil))) (pg_tup (by rfl) (pgs_cons (pg_name (i := 5) nd rfl (by first | exact Or.inl rfl | exact Or.inr rfl)) (pgs_cons (pg_name (i := 6) nd rfl (by first | exact Or.inl rfl | exact Or.inr rfl)) pgs_nil)))) (pss_cons (ps_while (passes_of rfl) (PW.pt (pw_and (pt_cmpR op_le (pv 6) (pv 1) (nomark _)) (pw_and1 (pt_cmpR (op_neP hr.units) (pe_methD D_Lock_longer (hr.mono (by decide)) (passX rfl (takes_of rfl rfl rfl rfl)) (pv 0) (pa_cons (pv 3) pa_nil)) (pv 3) (nomark _))))) (pss_one (ps_par3 (i := 5) (j := 6) (l := 3) (by rfl) nd rfl rfl rfl (by decide) (by decide) (by decide) rfl rfl rfl (pa_cons (pe_op op_add (pv 5) (pv 2)) (pa_cons (pe_op op_add (pv 6) (pv 3)) (pa_cons (pe_methD D_Lock_longer (hr.mono (by decide)) (passX rfl (takes_of rfl rfl rfl rfl)) (pv 0) (pa_cons (pv 3) pa_nil)) pa_nil))) (by rfl)))) (pss_one (ps_ret (pe_ifExp (pt_cmpR op_le (pv 6) (pv 1) (nomark _)) (pe_op op_add (pv 5) (pe_op op_mul (pv 2) (pe_op op_add (pe_op op_fdivW (pe_op op_sub (pv 1) (pv 6)) (pv 3)) pe_int))) (pv 5)))))))), ?_⟩
  obtain ⟨_, _, rfl, x, t, p, g, e, rfl, rfl, o, e0, e1, L, q⟩ := hsp
  obtain ⟨dx, b, h1, h2⟩ := id L
  walk_at "go"
  refine i_spIsNumber (.int e) ?_
  have e2 : numIn (.int e) 0 1000000000000000 = true := by unfold numIn; simp [e0, e1]
  rw [e2]
  walk_at "go"
  refine i_exfld h1 T.cl T.n_bounds rfl ?_
  refine g_tup (.of h2) rfl ?_
  refine g_cons ?_
  walk_at "go"
  refine g_cons ?_
  walk_at "go"
  refine g_cons ?_
  walk_at "go"
  refine g_nil ?_
  walk_at "go"
  intro bt nt
  refine g_tup (.of upd_same) rfl ?_
  refine g_cons ?_
  walk_at "go"
  refine g_cons ?_
  walk_at "go"
  refine g_nil ?_
  walk_at "go"
  have sH := Same.new (o := .tup [.int 0, .int 0]) (Same.refl H) nt
  generalize upd H bt (.tup [.int 0, .int 0]) = H1 at sH ⊢
  replace L := L.same sH
  replace h1 := sH _ _ h1
  refine s_while (fun m σ H' => H' = H1 ∧ ∃ n : Nat, m = (e + 1 - tz g p n).toNat ∧ (0 < n → tz g p (n - 1) ≤ e) ∧ σ = [some (.ref x), some (.int e), some (.int t), some (.int (pz g p n)), some (.int g), some (.int (t * n)), some (.int (tz g p n))]) _
    ⟨rfl, 0, rfl, fun h => absurd h (by decide), by rw [show (t * ((0 : Nat) : Int)) = 0 from Int.mul_zero t] <;> rfl⟩ ?_
  rintro m σ H' ⟨rfl, n, rfl, hn, rfl⟩
  have hb := pz_b o n
  walk_at "go"
  refine iteB (fun c => ?_) (fun c => ?_)
  · have c := of_decide_eq_true c
    walk_at "go"
    refine i_exmeth h1 rfl ?_
    walk_at "go"
    refine m_sp2 ⟨x, t, p, g, pz g p n, rfl, rfl, o, by omega, hb.2, L, ?_⟩
    walk_at "go"
    refine iteB (fun c2 => ?_) (fun c2 => ?_)
    · refine w_body ?_
      walk_at "go"
      refine i_exmeth h1 rfl ?_
      walk_at "go"
      refine m_sp2 ⟨x, t, p, g, pz g p n, rfl, rfl, o, by omega, hb.2, L, ?_⟩
      walk_at "go"
      have hl := tz_lt o n
      refine ⟨_, ?_, rfl, n + 1, rfl, fun _ => c, ?_⟩
      · omega
      · rw [Int.natCast_succ, Int.mul_add, Int.mul_one]
        rfl
    · have c2 : mn (pz g p n * g) 1000000000 = pz g p n := by simpa using c2
      walk_at "go"
      refine iteY (decide_eq_true c) ?_
      have hd : 0 ≤ (e - tz g p n) / pz g p n := Int.ediv_nonneg (by omega) (by omega)
      have ot1 := o.t1
      have ot9 := o.t9
      walk_at "go"
      have z := up_stays o c2 c
      have e3 : t * (n : Int) + t * ((e - tz g p n) / pz g p n + 1) = t * ((n + ((e - tz g p n) / pz g p n + 1).toNat : Nat) : Int) := by
        rw [← Int.mul_add]
        congr 1
        omega
      rw [e3]
      exact q _ _ z sH
  · have c := of_decide_eq_false c
    walk_at "go"
    refine iteN (decide_eq_false c) ?_
    walk_at "go"
    refine q n _ ⟨?_, ?_, by omega⟩ sH
    · rcases Nat.eq_zero_or_pos n with z | z
      · rw [z] at c
        exact absurd (show tz g p 0 ≤ e from e0) c
      · exact z
    · rcases Nat.eq_zero_or_pos n with z | z
      · rw [z] at c
        exact absurd (show tz g p 0 ≤ e from e0) c
      · exact hn z
theorem ok_least_time (T : Txt K mg CL) (D_is_number : DefOk P w K mg base 1 "is_number" P_is_number (spIsNumber K)) (D_Lock_longer : MethOk P w K mg base 1 CL "longer" P_Lock_longer (spLonger CL)) {f : Addr} {fd : FuncData} (F : Fun_least_time K f fd) : KeepsAt P w K mg base 2 P_least_time (spLeast CL) f := by
  refine keeps (k := 1) F sc_least_time len2 (fun _ _ _ _ _ _ us hl => match us, hl with | [_, _], _ => rfl) (fun cdv A outer s H vs Q E hr hsp => ?_)
  have nd := sc_least_time.nd
  refine ⟨_, (pss_cons (ps_if (pt_not (pt_val (pe_callD D_is_number (hr.mono (by decide)) (passX rfl (takes_of rfl rfl rfl rfl)) (pa_cons (pv 1) (pa_cons pe_int (pa_cons (pe_glv T.c_MOST_COUNT (by rfl)) pa_nil)))))) (pss_one ps_never) pss_nil) (pss_cons (ps_asg (pe_fld (pv 0) rfl) (pg_tup (by rfl) (pgs_cons (pg_name (i := 2) nd rfl (by first | exact Or.inl rfl | exact Or.inr rfl)) (pgs_cons (pg_name (i := 3) nd rfl (by first | exact Or.inl rfl | exact Or.inr rfl)) (pgs_cons (pg_name (i := 4) nd rfl (by first | exact Or.inl rfl | exact Or.inr rfl)) pgs_nil))))) (pss_cons (ps_par (i := 5) (j := 6) (by rfl) nd rfl rfl (by decide) rfl rfl (pa_cons (pe_op op_fdivW (pe_op op_sub (pv 1) pe_int) (pv 2)) (pa_cons pe_int pa_nil)) (by rfl)) (pss_cons (ps_while (passes_of rfl) (PW.pt (pw_and (pt_cmpR op_gt (pv 5) pe_int (nomark _)) (pw_and1 (pt_cmpR (op_neP hr.units) (pe_methD D_Lock_longer (hr.mono (by decide)) (passX rfl (takes_of rfl rfl rfl rfl)) (pv 0) (pa_cons (pv 3) pa_nil)) (pv 3) (nomark _))))) (pss_one (ps_par3 (i := 5) (j := 6) (l := 3) (by rfl) nd rfl rfl rfl (by decide) (by decide) (by decide) rfl rfl rfl (pa_cons (pe_op op_sub (pv 5) pe_int) (pa_cons (pe_op op_add (pv 6) (pv 3)) (pa_cons (pe_methD D_Lock_longer (hr.mono (by decide)) (passX rfl (takes_of rfl rfl rfl rfl)) (pv 0) (pa_cons (pv 3) pa_nil)) pa_nil))) (by rfl)))) (pss_one (ps_ret (pe_op op_add (pv 6) (pe_op op_mul (pv 5) (pv 3))))))))), ?_⟩
  obtain ⟨_, _, rfl, x, t, p, g, e, rfl, rfl, o, e0, e1, L, q⟩ := hsp
  obtain ⟨dx, b, h1, h2⟩ := id L
  walk_at "go"
  refine i_spIsNumber (.int e) ?_
  have e2 : numIn (.int e) 1 1000000000 = true := by unfold numIn; simp [e0, e1]
  rw [e2]
  walk_at "go"
  refine i_exfld h1 T.cl T.n_bounds rfl ?_
  refine g_tup (.of h2) rfl ?_
  refine g_cons ?_
  walk_at "go"
  refine g_cons ?_
  walk_at "go"
  refine g_cons ?_
  walk_at "go"
  refine g_nil ?_
  have o1 := o.t1
  have o9 := o.t9
  walk_at "go"
  have hr0 : 0 ≤ (e - 1) / t := Int.ediv_nonneg (by omega) (by omega)
  have hr1 : (e - 1) / t ≤ 1000000000 := Int.le_trans (Int.ediv_le_self _ (by omega)) (by omega)
  obtain ⟨R, hR⟩ : ∃ R : Nat, (e - 1) / t = R := ⟨((e - 1) / t).toNat, by omega⟩
  rw [hR] at q hr1 ⊢
  rw [show ((R : Nat) : Int).toNat = R from rfl] at q
  refine s_while (fun m σ H' => H' = H ∧ ∃ n : Nat, m = R - n ∧ n ≤ R ∧ σ = [some (.ref x), some (.int e), some (.int t), some (.int (pz g p n)), some (.int g), some (.int ((R : Int) - n)), some (.int (tz g p n))]) _
    ⟨rfl, 0, rfl, Nat.zero_le _, by rw [show ((R : Int) - ((0 : Nat) : Int)) = R from Int.sub_zero _] <;> rfl⟩ ?_
  rintro m σ H' ⟨rfl, n, rfl, hn, rfl⟩
  have hb := pz_b o n
  walk_at "go"
  refine iteB (fun c => ?_) (fun c => ?_)
  · have c := of_decide_eq_true c
    walk_at "go"
    refine i_exmeth h1 rfl ?_
    walk_at "go"
    refine m_sp2 ⟨x, t, p, g, pz g p n, rfl, rfl, o, by omega, hb.2, L, ?_⟩
    walk_at "go"
    refine iteB (fun c2 => ?_) (fun c2 => ?_)
    · refine w_body ?_
      walk_at "go"
      refine i_exmeth h1 rfl ?_
      walk_at "go"
      refine m_sp2 ⟨x, t, p, g, pz g p n, rfl, rfl, o, by omega, hb.2, L, ?_⟩
      walk_at "go"
      refine ⟨_, ?_, rfl, n + 1, rfl, by omega, ?_⟩
      · omega
      · rw [Int.natCast_succ, show (R : Int) - ((n : Int) + 1) = R - n - 1 by omega]
        rfl
    · have c2 : mn (pz g p n * g) 1000000000 = pz g p n := by simpa using c2
      walk_at "go"
      walk_at "go"
      have e3 : tz g p n + ((R : Int) - n) * pz g p n = tz g p R := by
        have z := tz_stays o c2 (R - n)
        rw [Nat.add_sub_cancel' hn] at z
        rw [z]
        congr 2
        omega
      rw [e3]
      exact q _ (Same.refl _)
  · have c := of_decide_eq_false c
    walk_at "go"
    have e3 : (R : Int) - n = 0 := by omega
    rw [e3, Int.zero_mul, Int.add_zero, show n = R by omega]
    exact q _ (Same.refl _)
end
end T
set_option Elab.async false
set_option linter.all false
set_option maxRecDepth 100000
set_option maxHeartbeats 4000000
namespace T
open PySem PySem.Spec L2 G M40
local macro_rules | `(tactic| walk_at "ne") => `(tactic| first
  | assumption
  | (apply Ne.symm; assumption)
  | ((refine' ne_of_none ?gn1 ?gn2); (case gn2 => assumption); (case gn1 => walk_at "hp"))
  | (apply Ne.symm; (refine' ne_of_none ?gn1 ?gn2); (case gn2 => assumption); (case gn1 => walk_at "hp")))
local macro_rules | `(tactic| walk_at "hp") => `(tactic| first
  | assumption
  | exact upd_same
  | (refine Eq.trans (upd_ne ?_) ?_ <;> first | (walk_at "ne"; done) | walk_at "hp"))
local macro_rules | `(tactic| walk_at "side") => `(tactic| first
  | assumption
  | exact divW (by assumption) (by assumption)
  | exact divW (by decide) (by decide)
  | (show (0 : Int) < _; first | decide | omega)
  | exact Or.inl ⟨by omega, by omega⟩
  | exact Or.inr ⟨by omega, by omega⟩
  | exact divW (by omega) (by omega)
  | exact ⟨by decide, by decide, by decide⟩)
local macro_rules | `(tactic| walk_at "go1") => `(tactic| first
  | with_reducible refine s_seq ?_
  | with_reducible refine s_asg ?_
  | with_reducible refine s_if ?_
  | with_reducible refine s_ret ?_
  | with_reducible refine s_drop ?_
  | with_reducible refine s_next ?_
  | with_reducible refine g_name ?_
  | with_reducible refine i_cons ?_
  | with_reducible refine i_nil ?_
  | with_reducible refine i_c ?_
  | ((with_reducible refine' i_var ?gvar ?_); (case gvar => rfl))
  | with_reducible refine i_op ?_
  | with_reducible refine i_test ?_
  | with_reducible refine i_exb ?_
  | with_reducible refine i_I0 ?_
  | ((with_reducible refine' i_I ?gside ?_); (case gside => walk_at "side"))
  | with_reducible refine i_un ?_
  | with_reducible refine i_U ?_
  | with_reducible refine i_cb ?_
  | with_reducible refine i_call ?_
  | with_reducible refine i_andV ?_
  | with_reducible refine i_orV ?_
  | with_reducible refine i_notV ?_
  | with_reducible refine i_chain ?_
  | with_reducible refine i_tnot ?_
  | with_reducible refine i_tand ?_
  | with_reducible refine i_tor ?_
  | with_reducible refine i_B ?_
  | with_reducible refine i_if ?_
  | with_reducible refine i_tup ?_
  | with_reducible refine i_lst ?_
  | ((with_reducible refine' e_len ?gk ?_); (case gk => rfl))
  | with_reducible refine i_yes ?_
  | with_reducible refine iteNT ?_
  | with_reducible refine iteNF ?_
  | with_reducible refine s_for ?_
  | with_reducible refine i_rng1 ?_
  | with_reducible refine i_rng2 ?_
  | with_reducible refine i_ilist ?_
  | with_reducible refine i_itup ?_
  | with_reducible refine s_par ?_
  | with_reducible refine e_par ?_
  | with_reducible refine s_par3 ?_
  | with_reducible refine e_par3 ?_
  | with_reducible refine g_sub ?_
  | with_reducible refine s_fld ?_
  | with_reducible refine i_fld ?_
  | with_reducible refine i_prop ?_
  | with_reducible refine i_make ?_
  | with_reducible refine i_meth ?_
  | with_reducible refine i_bm ?_
  | with_reducible refine i_bm0 ?_
  | with_reducible refine i_lc ?_
  | with_reducible refine i_eqI ?_
  | with_reducible refine i_neI ?_
  | with_reducible refine i_int1 ?_
  | with_reducible refine i_min2 ?_
  | with_reducible refine i_max2 ?_
  | ((with_reducible refine' i_lenL (.of ?gh) ?_); (case gh => walk_at "hp"))
  | ((with_reducible refine' i_lenT (.of ?gh) ?_); (case gh => walk_at "hp"))
  | ((with_reducible refine' i_ixL (.of ?gh) ?gi ?_); (case gh => walk_at "hp"); (case gi => rfl))
  | ((with_reducible refine' i_ixT (.of ?gh) ?gi ?_); (case gh => walk_at "hp"); (case gi => rfl))
  | ((with_reducible refine' i_setL ?gh ?gi ?_); (case gh => walk_at "hp"); (case gi => rfl))
  | with_reducible refine iteT ?_
  | with_reducible refine iteF ?_)
local macro_rules | `(tactic| walk_at "go") => `(tactic| repeat walk_at "go1")
local macro_rules | `(tactic| walk_at "gos") => `(tactic| repeat ((fail_if_success (with_reducible refine s_seqIf ?_)); walk_at "go1"))


def spLaw (K : PySem.W.Frag) : Sp := Sp1 fun a H Q _ => ∃ (x : Addr) (ns : List Int), a = .ref x ∧ Sc K H x ns ∧ ∀ H', Q (.bl true) H'
theorem i_propT {CL : Addr} {H : Hp} {x : Addr} {t p g : Int} {Q : VK} {E : XK} (L : LockAt CL H x t p g) (q : Q (.int t) H) : ∃ a dx fs, V.ref x = .ref a ∧ H a = some (.ins CL dx fs) ∧ spTries CL (.ref a :: []) H Q E := by
  obtain ⟨dx, b, h1, h2⟩ := id L
  exact ⟨x, dx, _, rfl, h1, m_sp1' ⟨x, t, p, g, rfl, L, q⟩⟩
theorem i_propG {CL : Addr} {H : Hp} {x : Addr} {t p g : Int} {Q : VK} {E : XK} (L : LockAt CL H x t p g) (q : Q (.int g) H) : ∃ a dx fs, V.ref x = .ref a ∧ H a = some (.ins CL dx fs) ∧ spGrowth CL (.ref a :: []) H Q E := by
  obtain ⟨dx, b, h1, h2⟩ := id L
  exact ⟨x, dx, _, rfl, h1, m_sp1' ⟨x, t, p, g, rfl, L, q⟩⟩
theorem i_mostI {CL : Addr} {H : Hp} {x : Addr} {t p g e : Int} {Q : VK} {E : XK} (o : Ok t p g) (L : LockAt CL H x t p g) (e0 : 0 ≤ e) (e1 : e ≤ 1000000000000000) (q : ∀ (c : Nat) (H' : Hp), Up g p e c → Same H H' → Q (.int (t * c)) H') : spMost CL ([.ref x, .int e] ++ []) H Q E :=
  i_sp2 ⟨x, t, p, g, e, rfl, rfl, o, e0, e1, L, q⟩
theorem i_leastI {CL : Addr} {H : Hp} {x : Addr} {t p g e : Int} {Q : VK} {E : XK} (o : Ok t p g) (L : LockAt CL H x t p g) (e0 : 1 ≤ e) (e1 : e ≤ 1000000000) (q : ∀ H', Same H H' → Q (.int (tz g p ((e - 1) / t).toNat)) H') : spLeast CL ([.ref x, .int e] ++ []) H Q E :=
  i_sp2 ⟨x, t, p, g, e, rfl, rfl, o, e0, e1, L, q⟩
/-- the times so far -/
def tms (g p : Int) (n : Nat) : List V := ((List.range n).map (tz g p)).map V.int
theorem tms_at (g p : Int) {n i : Nat} (h : i < n) : (tms g p n)[i]? = some (.int (tz g p i)) := by
  unfold tms
  simp [h]
theorem tms_len (g p : Int) (n : Nat) : (tms g p n).length = n := by unfold tms; simp
theorem tms_succ (g p : Int) (n : Nat) : tms g p n ++ [.int (tz g p n)] = tms g p (n + 1) := by
  unfold tms
  rw [List.range_succ, List.map_append, List.map_append]
  rfl
theorem tms_last (g p : Int) (n : Nat) : atI (tms g p (n + 1)) (-1) = some (.int (tz g p n)) := by
  rw [← tms_succ]
  exact atI_last _ _
/-- what stands while a lock is tried -/
structure At (K : PySem.W.Frag) (CL : Addr) (H : Hp) (r x l : Addr) (t p g : Int) (n : Nat) : Prop where
  row : RowAt K H r
  lk : LockAt CL H x t p g
  ts : H l = some (.lst (tms g p n))
  ne : l ≠ r
theorem At.same {K : PySem.W.Frag} {CL : Addr} {H H' : Hp} {r x l : Addr} {t p g : Int} {n : Nat} (a : At K CL H r x l t p g n) (s : Same H H') : At K CL H' r x l t p g n := ⟨a.row.same s, a.lk.same s, s _ _ a.ts, a.ne⟩
theorem At.drawn {K : PySem.W.Frag} {CL : Addr} {H H' : Hp} {r x l : Addr} {t p g : Int} {n : Nat} (a : At K CL H r x l t p g n) (hr : RowAt K H' r) (b : But r H H') : At K CL H' r x l t p g n := by
  obtain ⟨_, _, _, _, _, h1, _⟩ := a.row
  exact ⟨hr, a.lk.but h1 b, b _ _ a.ne a.ts, a.ne⟩
section
variable {P : Program} {w : World} {K : PySem.W.Frag} {mg : Str → Option Value} {base : Heap} {CL : Addr}
theorem ok_law (T : Txt K mg CL) (D_is_number : DefOk P w K mg base 1 "is_number" P_is_number (spIsNumber K)) (D__law_taken : DefOk P w K mg base 1 "_law_taken" P_l_taken (spTaken K)) (D_Lock : MakeOk P w K mg base 2 "Lock" CL P_Lock_init (spLockInit CL)) (D_Lock_tries : PrOk P w K mg base 1 CL "tries" P_Lock_tries (spTries CL)) (D_Lock_growth : PrOk P w K mg base 1 CL "growth" P_Lock_growth (spGrowth CL)) (D_most_refusals : DefOk P w K mg base 2 "most_refusals" P_most_refusals (spMost CL)) (D_least_time : DefOk P w K mg base 2 "least_time" P_least_time (spLeast CL)) {f : Addr} {fd : FuncData} (F : Fun_law K f fd) : FnOk P w K mg base (L2.CX P w) 5 f fd P_law (spLaw K) := by
  refine keepsF (k := 4) F sc_law len1 (fun cdv A outer s H vs Q E hr hsp => ?_)
  have nd := sc_law.nd
  refine ⟨_, (pss_cons (ps_set (i := 1) nd rfl (by first | exact Or.inl rfl | exact Or.inr rfl) (pe_lst (pa_cons (pv 0) (pa_cons pe_int (pa_cons pe_int (pa_cons pe_int pa_nil)))))) (pss_cons (ps_for (passes_of rfl) (by rfl) (pi_range1 (by rfl) T.b_range (pa_cons pe_int pa_nil)) (pg_name (i := 2) nd rfl (by first | exact Or.inl rfl | exact Or.inr rfl)) (pss_cons (ps_set (i := 3) nd rfl (by first | exact Or.inl rfl | exact Or.inr rfl) (pe_op op_add pe_int (pe_callD D__law_taken (hr.mono (by decide)) (passX rfl (takes_of rfl rfl rfl rfl)) (pa_cons (pv 1) (pa_cons (pe_ix ix_seq (pe_lst (pa_cons pe_int (pa_cons pe_int (pa_cons pe_int pa_nil)))) (pe_callD D__law_taken (hr.mono (by decide)) (passX rfl (takes_of rfl rfl rfl rfl)) (pa_cons (pv 1) (pa_cons pe_int pa_nil))) (fun _ _ => rfl)) pa_nil))))) (pss_cons (ps_set (i := 4) nd rfl (by first | exact Or.inl rfl | exact Or.inr rfl) (pe_makeD D_Lock (hr.mono (by decide)) (passX rfl (takes_of rfl rfl rfl rfl)) (pa_cons (pe_op op_add pe_int (pe_callD D__law_taken (hr.mono (by decide)) (passX rfl (takes_of rfl rfl rfl rfl)) (pa_cons (pv 1) (pa_cons pe_int pa_nil)))) (pa_cons (pv 3) (pa_cons (pe_op op_add pe_int (pe_callD D__law_taken (hr.mono (by decide)) (passX rfl (takes_of rfl rfl rfl rfl)) (pa_cons (pv 1) (pa_cons pe_int pa_nil)))) pa_nil))))) (pss_cons (ps_set (i := 5) nd rfl (by first | exact Or.inl rfl | exact Or.inr rfl) (pe_lst (pa_cons pe_int pa_nil))) (pss_cons (ps_for (passes_of rfl) (by rfl) (pi_range1 (by rfl) T.b_range (pa_cons pe_int pa_nil)) (pg_name (i := 6) nd rfl (by first | exact Or.inl rfl | exact Or.inr rfl)) (pss_cons (ps_expr (pe_bm PySem.F.plainAttrs_list PySem.F.slot_list_append PySem.F.type_list_append mt_append (pv 5) (pa_cons (pe_op op_add (pe_ix ix_seq (pv 5) (pe_un un_neg pe_int) (fun _ _ => rfl)) (pv 3)) pa_nil))) (pss_one (ps_set (i := 3) nd rfl (by first | exact Or.inl rfl | exact Or.inr rfl) (pe_callB (c_min2 rfl) (by rfl) T.b_min bt_min (pa_cons (pe_op op_pow pe_int pe_int) (pa_cons (pe_op op_mul (pv 3) (pe_propD D_Lock_growth (hr.mono (by decide)) passL (pv 4))) pa_nil))))))) (pss_cons (ps_for (passes_of rfl) (by rfl) (pi_range1 (by rfl) T.b_range (pa_cons pe_int pa_nil)) (pg_name (i := 7) nd rfl (by first | exact Or.inl rfl | exact Or.inr rfl)) (pss_cons (ps_par (i := 6) (j := 8) (by rfl) nd rfl rfl (by decide) rfl rfl (pa_cons (pe_callD D__law_taken (hr.mono (by decide)) (passX rfl (takes_of rfl rfl rfl rfl)) (pa_cons (pv 1) (pa_cons pe_int pa_nil))) (pa_cons (pe_op op_sub (pe_callD D__law_taken (hr.mono (by decide)) (passX rfl (takes_of rfl rfl rfl rfl)) (pa_cons (pv 1) (pa_cons pe_int pa_nil))) pe_int) pa_nil)) (by rfl)) (pss_cons (ps_set (i := 9) nd rfl (by first | exact Or.inl rfl | exact Or.inr rfl) (pe_callB (c_max2 rfl) (by rfl) T.b_max bt_max (pa_cons pe_int (pa_cons (pe_op op_add (pe_ix ix_seq (pv 5) (pv 6) (fun _ _ => rfl)) (pv 8)) pa_nil)))) (pss_cons (ps_set (i := 10) nd rfl (by first | exact Or.inl rfl | exact Or.inr rfl) (pe_op op_mul (pe_propD D_Lock_tries (hr.mono (by decide)) passL (pv 4)) (pe_callB c_len (by rfl) T.b_len bt_len (pa_cons (pe_lc (own := [("_law_time", 14)]) (g := gName 14) (by rfl) nd (pi_list (pv 5)) (blkOk_by (N := N_law) (sc := defScope s_law) (own := [("_law_time", 14)]) (by decide +kernel)) (fun _ _ _ _ _ => (pg_name (i := 14) nd rfl (by first | exact Or.inl rfl | exact Or.inr rfl))) (fun _ _ _ _ _ => (pts_one (pt_cmpR op_le (pv 14) (pv 9) (nomark _)))) (fun _ _ _ _ _ => (pv 14))) pa_nil)))) (pss_cons (ps_if (PW.pt (pw_and (pt_cmpR op_lt (pv 9) (pe_ix ix_seq (pv 5) pe_int (fun _ _ => rfl)) (nomark _)) (pw_and1 (pt_cmpR (op_neP hr.units) (pe_callD D_most_refusals (hr.mono (by decide)) (passX rfl (takes_of rfl rfl rfl rfl)) (pa_cons (pv 4) (pa_cons (pv 9) pa_nil))) (pv 10) (nomark _))))) (pss_one (ps_ret pe_bl)) pss_nil) (pss_cons (ps_set (i := 11) nd rfl (by first | exact Or.inl rfl | exact Or.inr rfl) (pe_op op_add pe_int (pe_callD D__law_taken (hr.mono (by decide)) (passX rfl (takes_of rfl rfl rfl rfl)) (pa_cons (pv 1) (pa_cons (pe_op op_mul (pe_propD D_Lock_tries (hr.mono (by decide)) passL (pv 4)) pe_int) pa_nil))))) (pss_one (ps_if (pt_cmpR (op_neP hr.units) (pe_callD D_least_time (hr.mono (by decide)) (passX rfl (takes_of rfl rfl rfl rfl)) (pa_cons (pv 4) (pa_cons (pv 11) pa_nil))) (pe_ix ix_seq (pv 5) (pe_op op_fdivW (pe_op op_sub (pv 11) pe_int) (pe_propD D_Lock_tries (hr.mono (by decide)) passL (pv 4))) (fun _ _ => rfl)) (nomark _)) (pss_one (ps_ret pe_bl)) pss_nil)))))))) (pss_cons (ps_set (i := 11) nd rfl (by first | exact Or.inl rfl | exact Or.inr rfl) (pe_op op_add pe_int (pe_callD D__law_taken (hr.mono (by decide)) (passX rfl (takes_of rfl rfl rfl rfl)) (pa_cons (pv 1) (pa_cons (pe_op op_pow pe_int pe_int) pa_nil))))) (pss_cons (ps_set (i := 12) nd rfl (by first | exact Or.inl rfl | exact Or.inr rfl) (pe_callD D_least_time (hr.mono (by decide)) (passX rfl (takes_of rfl rfl rfl rfl)) (pa_cons (pv 4) (pa_cons (pv 11) pa_nil)))) (pss_cons (ps_if (PW.pt (pw_and (pt_cmpR op_le (pv 12) (pe_op op_pow pe_int pe_int) (nomark _)) (pw_and1 (pt_cmpR op_lt (pe_callD D_most_refusals (hr.mono (by decide)) (passX rfl (takes_of rfl rfl rfl rfl)) (pa_cons (pv 4) (pa_cons (pv 12) pa_nil))) (pv 11) (nomark _))))) (pss_one (ps_ret pe_bl)) pss_nil) (pss_cons (ps_if (PW.pt (pw_and (pt_chain op_lt op_le pe_int (pv 12) (pe_op op_pow pe_int pe_int)) (pw_and1 (pt_cmpR op_ge (pe_callD D_most_refusals (hr.mono (by decide)) (passX rfl (takes_of rfl rfl rfl rfl)) (pa_cons (pv 4) (pa_cons (pe_op op_sub (pv 12) pe_int) pa_nil))) (pv 11) (nomark _))))) (pss_one (ps_ret pe_bl)) pss_nil) (pss_cons (ps_set (i := 9) nd rfl (by first | exact Or.inl rfl | exact Or.inr rfl) (pe_callD D__law_taken (hr.mono (by decide)) (passX rfl (takes_of rfl rfl rfl rfl)) (pa_cons (pv 1) (pa_cons (pe_op op_pow pe_int pe_int) pa_nil)))) (pss_cons (ps_set (i := 13) nd rfl (by first | exact Or.inl rfl | exact Or.inr rfl) (pe_callD D_most_refusals (hr.mono (by decide)) (passX rfl (takes_of rfl rfl rfl rfl)) (pa_cons (pv 4) (pa_cons (pv 9) pa_nil)))) (pss_cons (ps_if (PW.pt (pw_and (pt_cmpR op_lt (pv 13) (pe_op op_pow pe_int pe_int) (nomark _)) (pw_and1 (PW.pt (pw_or (pt_cmpR op_gt (pe_callD D_least_time (hr.mono (by decide)) (passX rfl (takes_of rfl rfl rfl rfl)) (pa_cons (pv 4) (pa_cons (pv 13) pa_nil))) (pv 9) (nomark _)) (pw_or1 (pt_cmpR op_le (pe_callD D_least_time (hr.mono (by decide)) (passX rfl (takes_of rfl rfl rfl rfl)) (pa_cons (pv 4) (pa_cons (pe_op op_add (pv 13) pe_int) pa_nil))) (pv 9) (nomark _)))))))) (pss_one (ps_ret pe_bl)) pss_nil) (pss_one (ps_if (PW.pt (pw_or (pt_cmpR (op_neP hr.units) (pe_callD D_most_refusals (hr.mono (by decide)) (passX rfl (takes_of rfl rfl rfl rfl)) (pa_cons (pv 4) (pa_cons pe_int pa_nil))) (pe_propD D_Lock_tries (hr.mono (by decide)) passL (pv 4)) (nomark _)) (pw_or1 (pt_cmpR (op_neP hr.units) (pe_callD D_least_time (hr.mono (by decide)) (passX rfl (takes_of rfl rfl rfl rfl)) (pa_cons (pv 4) (pa_cons (pe_propD D_Lock_tries (hr.mono (by decide)) passL (pv 4)) pa_nil))) pe_int (nomark _))))) (pss_one (ps_ret pe_bl)) pss_nil))))))))))))))) (pss_one (ps_ret pe_bl)))), ?_⟩
  obtain ⟨_, rfl, a, ns, rfl, hS, q⟩ := hsp
  walk_at "go"
  intro r nr
  walk_at "go"
  have R0 : RowAt K (upd H r (.lst [.ref a, .int 0, .int 0, .int 0])) r := ⟨a, ns, 0, 0, 0, upd_same, hS.same (Same.new (Same.refl H) nr), by omega⟩
  generalize upd H r (.lst [.ref a, .int 0, .int 0, .int 0]) = H0 at R0 ⊢
  refine ⟨6, rfl, by decide, by decide, l_range (fun i σ H' => RowAt K H' r ∧ ∃ s2 s3 s4 s5 s6 s7 s8 s9 s10 s11 s12 s13 s14 : Option V, σ = [some (.ref a), some (.ref r), s2, s3, s4, s5, s6, s7, s8, s9, s10, s11, s12, s13, s14])
    ⟨R0, _, _, _, _, _, _, _, _, _, _, _, _, _, rfl⟩ ?_ ?_⟩
  · clear R0 H0
    rintro i σ H0 _ ⟨R0, s2, s3, s4, s5, s6, s7, s8, s9, s10, s11, s12, s13, s14, rfl⟩
    walk_at "go"
    -- pause
    intro b nb
    walk_at "go"
    obtain ⟨_, _, _, _, _, hr0, _⟩ := id R0
    have nbr : b ≠ r := fun z => by rw [z, hr0] at nb; cases nb
    refine i_spTaken (R0.same (Same.new (Same.refl _) nb)) (by decide) (by decide) fun d H1 d0 d1 R1 b1 => ?_
    have hb : H1 b = some (.lst [.int 3, .int 30, .int 1000]) := b1 b _ nbr upd_same
    have hv : ∃ v : Int, atI [V.int 3, V.int 30, V.int 1000] d = some (.int v) ∧ 1 ≤ v ∧ v ≤ 1000 := by
      have hd : d = 0 ∨ d = 1 ∨ d = 2 := by omega
      rcases hd with rfl | rfl | rfl
      · exact ⟨3, rfl, by decide, by decide⟩
      · exact ⟨30, rfl, by decide, by decide⟩
      · exact ⟨1000, rfl, by decide, by decide⟩
    obtain ⟨v, hv, v1, v2⟩ := hv
    refine i_ixL (.of hb) hv ?_
    walk_at "go"
    refine i_spTaken R1 (by omega) (by omega) fun d2 H2 e0 e1 R2 b2 => ?_
    walk_at "go"
    refine i_spTaken R2 (by decide) (by decide) fun d3 H3 f0 f1 R3 b3 => ?_
    walk_at "go"
    refine i_spTaken R3 (by decide) (by decide) fun d4 H4 k0 k1 R4 b4 => ?_
    walk_at "go"
    have o : Ok (1 + d3) (1 + d2) (1 + d4) := ⟨by omega, by omega, by omega, by omega, by omega, by omega⟩
    generalize 1 + d3 = t at o ⊢
    generalize 1 + d2 = p at o ⊢
    generalize 1 + d4 = g at o ⊢
    clear b1 b2 b3 b4 R0 R1 R2 R3 hb hv d0 d1 e0 e1 f0 f1 k0 k1 d d2 d3 d4 nb nbr b hr0
    intro x dx nx ndx nex
    refine m_sp4 ⟨x, dx, t, p, g, rfl, rfl, rfl, rfl, o, upd_same, fun H5 L5 b5 => ⟨rfl, ?_⟩⟩
    have s5 : Same H4 H5 := fun c u hc => b5 c u (fun z => by rw [z, nx] at hc; cases hc) (by
      rw [upd_ne (fun z => by rw [z, nx] at hc; cases hc), upd_ne (fun z => by rw [z, ndx] at hc; cases hc)]
      exact hc)
    have R5 := R4.same s5
    clear b5 s5 R4
    walk_at "go"
    intro l nl
    walk_at "go"
    have nlr : l ≠ r := by
      obtain ⟨_, _, _, _, _, hr5, _⟩ := R5
      exact fun z => by rw [z, hr5] at nl; cases nl
    have A0 : At K CL (upd H5 l (.lst [.int 0])) r x l t p g 1 := ⟨R5.same (Same.new (Same.refl _) nl), L5.same (Same.new (Same.refl _) nl), upd_same, nlr⟩
    generalize upd H5 l (.lst [.int 0]) = H6 at A0 ⊢
    refine ⟨25, rfl, by decide, by decide, l_range (fun n σ H' => At K CL H' r x l t p g (n + 1) ∧ ∃ s2 s6 s7 s8 s9 s10 s11 s12 s13 s14 : Option V, σ = [some (.ref a), some (.ref r), s2, some (.int (pz g p n)), some (.ref x), some (.ref l), s6, s7, s8, s9, s10, s11, s12, s13, s14])
      ⟨A0, _, _, _, _, _, _, _, _, _, _, rfl⟩ ?_ ?_⟩
    · rintro n σ H7 hn ⟨A7, s2, s6, s7, s8, s9, s10, s11, s12, s13, s14, rfl⟩
      have hb := pz_b o n
      walk_at "go"
      refine ⟨tyV_lst A7.ts, ?_⟩
      walk_at "go"
      refine i_ixL (.of A7.ts) (tms_last g p n) ?_
      walk_at "go"
      refine i_append A7.ts (by rw [tms_len]; exact Nat.lt_of_lt_of_le (by omega : n + 1 < 1000) (by decide)) ?_
      rw [show tz g p n + pz g p n = tz g p (n + 1) from rfl, tms_succ]
      have A8 : At K CL (upd H7 l (.lst (tms g p (n + 2)))) r x l t p g (n + 2) := by
        obtain ⟨h0, ⟨dx', b', h4, h5⟩, h6, h7⟩ := A7
        have bu : But l H7 (upd H7 l (.lst (tms g p (n + 2)))) := But.upd .refl
        exact ⟨h0.but h6 lst_frz h7 bu, ⟨dx', b', bu _ _ (ne_of h4 h6 (by intro z; cases z)) h4, bu _ _ (ne_of h5 h6 (by intro z; cases z)) h5⟩, upd_same, h7⟩
      walk_at "go"
      refine i_propG A8.lk ?_
      walk_at "go"
      have e : (if pz g p n * g < 10 ^ Int.toNat 9 then pz g p n * g else 10 ^ Int.toNat 9) = pz g p (n + 1) := by
        show _ = mn (pz g p n * g) 1000000000
        have e10 : (10 : Int) ^ Int.toNat 9 = 1000000000 := by decide
        rw [e10]
        unfold mn
        split <;> split <;> omega
      rw [e]
      exact ⟨A8, _, _, _, _, _, _, _, _, _, _, rfl⟩
    · clear A0 H6 nl L5 R5
      rintro σ H6 ⟨A6, s2, s6, s7, s8, s9, s10, s11, s12, s13, s14, rfl⟩
      have t1 := o.t1
      have t9 := o.t9
      walk_at "go"
      refine ⟨4, rfl, by decide, by decide, l_range (fun n σ H' => At K CL H' r x l t p g 26 ∧ ∃ s2 s3 s6 s7 s8 s9 s10 s11 s12 s13 s14 : Option V, σ = [some (.ref a), some (.ref r), s2, s3, some (.ref x), some (.ref l), s6, s7, s8, s9, s10, s11, s12, s13, s14])
        ⟨A6, _, _, _, _, _, _, _, _, _, _, _, rfl⟩ ?_ ?_⟩
      · clear A6 H6
        rintro n σ H0 hn ⟨A0, s2, s3, s6, s7, s8, s9, s10, s11, s12, s13, s14, rfl⟩
        walk_at "go"
        refine i_spTaken A0.row (by decide) (by decide) fun d H1 d0 d1 R1 b1 => ?_
        have A1 := A0.drawn R1 b1
        walk_at "go"
        refine i_spTaken A1.row (by decide) (by decide) fun d' H2 d0' d1' R2 b2 => ?_
        have A2 := A1.drawn R2 b2
        clear A0 A1 R1 R2 b1 b2 H0 H1
        obtain ⟨m, rfl⟩ : ∃ m : Nat, d = m := ⟨d.toNat, by omega⟩
        walk_at "go"
        refine i_ixL (.of A2.ts) (atI_nat (tms_at g p (show m < 26 by omega))) ?_
        walk_at "go"
        have hE : ∃ E : Int, (if tz g p m + (d' - 1) > 0 then tz g p m + (d' - 1) else 0) = E ∧ 0 ≤ E ∧ E ≤ 1000000000000000 := by
          have := tz_up o m
          have := (tz_nn o m).1
          refine ⟨_, rfl, ?_, ?_⟩ <;> split <;> omega
        obtain ⟨E', hE, E0, E1⟩ := hE
        rw [hE]
        refine i_propT A2.lk ?_
        walk_at "go"
        refine ⟨l, rfl, ⟨_, .of A2.ts⟩, fun D hD => lc_list (K := K) (a := l) (xs := tms g p 26) (fun i H' => Same H2 H' ∧ H' D = some (.lst ((((List.range i).map (tz g p)).filter fun z => decide (z ≤ E')).map V.int)))
          ⟨Same.new (Same.refl _) hD, upd_same⟩ (fun i H' _ ⟨s, _⟩ => s.seq (.of A2.ts)) ?_ ?_⟩
        · rintro i y H' hi ⟨s, e⟩
          have hi26 : i < 26 := by
            have := (List.getElem?_eq_some_iff.mp hi).1
            rw [tms_len] at this
            exact this
          rw [tms_at g p hi26] at hi
          cases hi
          have hlen : ((((List.range i).map (tz g p)).filter fun z => decide (z ≤ E')).map V.int).length < sizeLine := by
            rw [List.length_map]
            refine Nat.lt_of_le_of_lt (List.length_filter_le _ _) ?_
            rw [List.length_map, List.length_range]
            exact Nat.lt_of_lt_of_le hi26 (by decide)
          walk_at "go"
          refine ⟨rfl, ?_⟩
          walk_at "go"
          refine iteB (fun c => ?_) (fun c => ?_)
          · walk_at "go"
            refine ⟨_, e, hlen, Same.mut s hD, ?_⟩
            · rw [upd_same, List.range_succ, List.map_append, List.filter_append, List.map_append]
              simp only [List.map_cons, List.map_nil, List.filter_cons, c, if_true, List.filter_nil]
          · refine ⟨s, ?_⟩
            rw [e, List.range_succ, List.map_append, List.filter_append, List.map_append]
            simp [c]
        · rintro H3 ⟨s, e⟩
          rw [tms_len] at e
          have A3 := A2.same s
          walk_at "gos"
          refine s_cut (fun σ' H' => At K CL H' r x l t p g 26 ∧ ∃ s2 s3 s6 s7 s8 s9 s10 s11 s12 s13 s14 : Option V, σ' = [some (.ref a), some (.ref r), s2, s3, some (.ref x), some (.ref l), s6, s7, s8, s9, s10, s11, s12, s13, s14]) ?_ (fun k => ?_)
          · clear A2 A3 e s hD D hE E' E0 E1 d0 d1 d0' d1' H3 H2
            rintro σ H0 ⟨A0, s2, s3, s6, s7, s8, s9, s10, s11, s12, s13, s14, rfl⟩
            walk_at "go"
            refine i_propT A0.lk ?_
            walk_at "go"
            refine i_spTaken A0.row (by omega) (by omega) fun d H1 d0 d1 R1 b1 => ?_
            have A1 := A0.drawn R1 b1
            walk_at "go"
            refine i_leastI o A1.lk (by omega) (by omega) fun H2 s2 => ?_
            have A2 := A1.same s2
            walk_at "go"
            refine i_propT A2.lk ?_
            walk_at "go"
            have e1 : 1 + d - 1 = d := by omega
            have hd1 : d / t < 25 := Int.ediv_lt_of_lt_mul (by omega) (by omega)
            have hd0 : 0 ≤ d / t := Int.ediv_nonneg d0 (by omega)
            refine i_ixL (v := .int (tz g p (d / t).toNat)) (.of A2.ts) ?_ ?_
            · rw [e1, show d / t = (((d / t).toNat : Nat) : Int) by omega]
              exact atI_nat (tms_at g p (by omega))
            walk_at "go"
            rw [e1]
            refine iteN (by simp) ?_
            walk_at "go"
            exact ⟨A2, _, _, _, _, _, _, _, _, _, _, _, rfl⟩
          · walk_at "go"
            refine i_ixL (.of A3.ts) (by exact atI_nat (j := 25) (tms_at g p (show 25 < 26 by omega))) ?_
            walk_at "go"
            refine iteB (fun c => ?_) (fun c => ?_)
            · have c := of_decide_eq_true c
              walk_at "go"
              refine i_mostI o A3.lk E0 E1 fun cc H4 hu s4 => ?_
              have A4 := A3.same s4
              walk_at "go"
              have hcc : cc ≤ 25 := by
                have := tz_mono' o (Int.lt_of_le_of_lt hu.2.1 c)
                omega
              have e5 : (((((List.range 26).map (tz g p)).filter fun z => decide (z ≤ E')).map V.int).length : Int) = cc := by
                rw [List.length_map, up_count o hu 26, Nat.min_eq_left (by omega)]
              refine iteN (by rw [e5]; simp) ?_
              exact s_next <| k _ _ ⟨A4, _, _, _, _, _, _, _, _, _, _, _, rfl⟩
            · exact iteF <| s_next <| k _ _ ⟨A3, _, _, _, _, _, _, _, _, _, _, _, rfl⟩
      · clear A6 H6
        rintro σ H0 ⟨A0, s2, s3, s6, s7, s8, s9, s10, s11, s12, s13, s14, rfl⟩
        have e9 : (10 : Int) ^ Int.toNat 9 = 1000000000 := by decide
        have e15 : (10 : Int) ^ Int.toNat 15 = 1000000000000000 := by decide
        walk_at "go"
        rw [e9]
        refine i_spTaken A0.row (by decide) (by decide) fun d H1 d0 d1 R1 b1 => ?_
        have A1 := A0.drawn R1 b1
        walk_at "go"
        refine i_leastI o A1.lk (by omega) (by omega) fun H2 s2 => ?_
        have A2 := A1.same s2
        have e1 : 1 + d - 1 = d := by omega
        rw [e1]
        have hd0 : 0 ≤ d / t := Int.ediv_nonneg d0 (by omega)
        obtain ⟨M, hM⟩ : ∃ M : Nat, d / t = M := ⟨(d / t).toNat, by omega⟩
        have hM1 : d < t * (M + 1) := by
          have := Int.emod_add_mul_ediv d t
          have := Int.emod_lt_of_pos d (show 0 < t by omega)
          rw [hM] at *
          rw [Int.mul_add, Int.mul_one]
          omega
        have hM0 : t * M ≤ d := by
          have := Int.emod_add_mul_ediv d t
          have := Int.emod_nonneg d (show t ≠ 0 by omega)
          rw [hM] at *
          omega
        rw [hM, show ((M : Nat) : Int).toNat = M from rfl]
        clear A0 A1 R1 b1 s2 H0 H1
        have hz0 := (tz_nn o M).1
        walk_at "gos"
        -- first <= 10 ** 15 and most_refusals(lock, first) < count
        refine s_cut (fun σ' H' => At K CL H' r x l t p g 26 ∧ ∃ s2 s3 s6 s7 s8 s9 s10 s13 s14 : Option V, σ' = [some (.ref a), some (.ref r), s2, s3, some (.ref x), some (.ref l), s6, s7, s8, s9, s10, some (.int (1 + d)), some (.int (tz g p M)), s13, s14]) ?_ (fun k => ?_)
        rotate_left
        · walk_at "go"
          rw [e15]
          refine iteB (fun c => ?_) (fun c => ?_)
          · have c := of_decide_eq_true c
            walk_at "go"
            refine i_mostI o A2.lk hz0 c fun cc H4 hu s4 => ?_
            have A4 := A2.same s4
            have hcc := up_one o hu (up_tz o M)
            walk_at "go"
            refine iteN ?_ ?_
            · rw [decide_eq_false_iff_not, hcc, Int.natCast_succ]
              omega
            exact s_next <| k _ _ ⟨A4, _, _, _, _, _, _, _, _, _, rfl⟩
          · exact iteF <| s_next <| k _ _ ⟨A2, _, _, _, _, _, _, _, _, _, rfl⟩
        clear A2 H2 s2 s3 s6 s7 s8 s9 s10 s11 s12 s13 s14
        rintro σ H2 ⟨A2, s2, s3, s6, s7, s8, s9, s10, s13, s14, rfl⟩
        refine s_cut (fun σ' H' => At K CL H' r x l t p g 26 ∧ ∃ s2 s3 s6 s7 s8 s9 s10 s11 s12 s13 s14 : Option V, σ' = [some (.ref a), some (.ref r), s2, s3, some (.ref x), some (.ref l), s6, s7, s8, s9, s10, s11, s12, s13, s14]) ?_ (fun k => ?_)
        rotate_left
        · walk_at "go"
          refine iteB (fun c => ?_) (fun c => ?_)
          · have c := of_decide_eq_true c
            walk_at "go"
            rw [e15]
            refine iteB (fun c2 => ?_) (fun c2 => ?_)
            · have c2 := of_decide_eq_true c2
              walk_at "go"
              refine i_mostI o A2.lk (by omega) (by omega) fun cc H4 hu s4 => ?_
              have A4 := A2.same s4
              have hM : 0 < M := by
                rcases Nat.eq_zero_or_pos M with z | z
                · rw [z] at c
                  exact absurd c (by show ¬ (0 : Int) < 0; decide)
                · exact z
              have hcc := up_one o hu (up_pred o hM)
              walk_at "go"
              refine iteN ?_ ?_
              · rw [decide_eq_false_iff_not, hcc]
                omega
              exact s_next <| k _ _ ⟨A4, _, _, _, _, _, _, _, _, _, _, _, rfl⟩
            · exact s_next <| k _ _ ⟨A2, _, _, _, _, _, _, _, _, _, _, _, rfl⟩
          · walk_at "go1"
            exact s_next <| k _ _ ⟨A2, _, _, _, _, _, _, _, _, _, _, _, rfl⟩
        clear A2 H2 s2 s3 s6 s7 s8 s9 s10 s13 s14 hM1 hM0 hM hd0 e1 hz0 M d0 d1 d
        rintro σ H0 ⟨A0, s2, s3, s6, s7, s8, s9, s10, s11, s12, s13, s14, rfl⟩
        walk_at "go"
        rw [e15]
        refine i_spTaken A0.row (by decide) (by decide) fun d H1 d0 d1 R1 b1 => ?_
        have A1 := A0.drawn R1 b1
        walk_at "go"
        refine i_mostI o A1.lk d0 (by omega) fun cc H2 hu s2 => ?_
        have A2 := A1.same s2
        clear A0 R1 b1 A1 s2 H0 H1
        have c1 := hu.1
        have hcc : 1 ≤ t * cc := by
          obtain ⟨j, rfl⟩ : ∃ j : Nat, cc = j + 1 := ⟨cc - 1, by omega⟩
          rw [Int.natCast_succ, Int.mul_add, Int.mul_one]
          have := Int.mul_nonneg (show 0 ≤ t by omega) (Int.natCast_nonneg j)
          omega
        have h1 : ((t * cc - 1) / t).toNat = cc - 1 := by
          have e : t * cc - 1 = t * ((cc - 1 : Nat) : Int) + (t - 1) := by
            have : (cc : Int) = ((cc - 1 : Nat) : Int) + 1 := by omega
            rw [this, Int.mul_add, Int.mul_one]
            omega
          rw [e, Int.add_comm, Int.add_mul_ediv_left _ _ (by omega), Int.ediv_eq_zero_of_lt (by omega) (by omega)]
          omega
        have h2 : ((t * cc + 1 - 1) / t).toNat = cc := by
          rw [show t * (cc : Int) + 1 - 1 = t * cc by omega, Int.mul_ediv_cancel_left _ (by omega)]
          rfl
        walk_at "gos"
        refine s_cut (fun σ' H' => At K CL H' r x l t p g 26 ∧ ∃ s2 s3 s6 s7 s8 s9 s10 s11 s12 s13 s14 : Option V, σ' = [some (.ref a), some (.ref r), s2, s3, some (.ref x), some (.ref l), s6, s7, s8, s9, s10, s11, s12, s13, s14]) ?_ (fun k => ?_)
        rotate_left
        · walk_at "go"
          rw [e9]
          refine iteB (fun c => ?_) (fun c => ?_)
          · have c := of_decide_eq_true c
            walk_at "go"
            refine i_leastI o A2.lk hcc (by omega) fun H3 s3 => ?_
            have A3 := A2.same s3
            rw [h1]
            walk_at "go"
            refine iteN ?_ ?_
            · rw [decide_eq_false_iff_not]
              have := hu.2.1
              omega
            walk_at "go"
            refine i_leastI o A3.lk (by omega) (by omega) fun H4 s4 => ?_
            have A4 := A3.same s4
            rw [h2]
            walk_at "go"
            refine iteN ?_ ?_
            · rw [decide_eq_false_iff_not]
              have := hu.2.2
              omega
            exact s_next <| k _ _ ⟨A4, _, _, _, _, _, _, _, _, _, _, _, rfl⟩
          · exact iteF <| s_next <| k _ _ ⟨A2, _, _, _, _, _, _, _, _, _, _, _, rfl⟩
        clear A2 H2 s3 s6 s7 s8 s9 s10 s11 s12 s13 s14 h1 h2 hcc c1 hu cc d0 d1 d
        rintro σ H2 ⟨A2, s2, s3, s6, s7, s8, s9, s10, s11, s12, s13, s14, rfl⟩
        have u0 := up_tz o 0
        walk_at "go"
        refine i_mostI o A2.lk (by decide) (by decide) fun cc H3 hu s3 => ?_
        have A3 := A2.same s3
        have hcc := up_one o hu u0
        walk_at "go"
        refine i_propT A3.lk ?_
        walk_at "go"
        refine iteN (by rw [hcc]; simp) ?_
        walk_at "go"
        refine i_propT A3.lk ?_
        walk_at "go"
        refine i_leastI o A3.lk (by omega) (by omega) fun H4 s4 => ?_
        have A4 := A3.same s4
        have h1 : ((t - 1) / t).toNat = 0 := by
          rw [Int.ediv_eq_zero_of_lt (by omega) (by omega)]
          rfl
        rw [h1]
        walk_at "go"
        refine iteN (by simp [tz]) ?_
        walk_at "go"
        exact ⟨A4.row, _, _, _, _, _, _, _, _, _, _, _, _, _, rfl⟩
  · rintro σ H' ⟨_, _, _, _, _, _, _, _, _, _, _, _, _, _, rfl⟩
    walk_at "go"
    exact q _
end
end T
set_option Elab.async false
set_option linter.all false
set_option maxRecDepth 100000
set_option maxHeartbeats 0
namespace T
open PySem PySem.Spec L2 G M40 He
def fn : List DefD := [d_is_number, d_l_taken, d_Lock_init, d_Lock_longer, d_most_refusals, d_least_time, d_law]
def getD (C f q : Str) (st : Stmt) : He5.DefA := ⟨fun K => propGet K (ga K C) f, f, q, defArgs st, defBody st, defScope st, [], []⟩
def fg : List He5.DefA := [getD "Lock" "tries" "Lock.tries" s_Lock_tries, getD "Lock" "growth" "Lock.growth" s_Lock_growth]
def fa : List Fa := [.free "isinstance", .free "int", .free "bool", .free "len", .free "min", .free "max", .free "range",
  .int "MOST_TRIES" 9, .int "MOST_PAUSE" 1000, .int "MOST_GROWTH" 9, .int "LONGEST" 1000000000, .int "MOST_END" 1000000000000000, .int "MOST_COUNT" 1000000000,
  .cls "Lock", .noat "Lock" "bounds", .mkr "Lock", .glo "Lock", .meth "Lock" "longer", .glo "is_number", .glo "_law_taken", .glo "most_refusals", .glo "least_time", .glo "law"]
def ex (K : PySem.W.Frag) : Bool := propB K (ga K "Lock") "tries" && propB K (ga K "Lock") "growth"
abbrev R : PySem.W.OpenRow := PySem.W.OpenLaw.row PySem.Challenge.rw_loginstacks_k40_whole_bounds_of_locks
abbrev hk : PySem.W.Hook := hookG 7 fa fn [] [] ex fg
def ob (s : PySem.W.SharedT) : AlG := obH 7 fa fn [] [] ex fg s
def names : List Str := ["__name__", "StackError", "InvalidLock", "InvalidNumber", "is_number", "MOST_TRIES", "MOST_PAUSE", "MOST_GROWTH", "LONGEST", "MOST_END", "MOST_COUNT", "Lock", "most_refusals", "least_time", "_law_taken"]
theorem run (w : World) : HandSHeadRun.RunEq R (PySem.W.view R.prog [18]) hk ob 2000 names w := by
  intro os
  kernel_rfl
theorem facts {P : Program} {w : World} {K : PySem.W.Frag} {h : Heap} {mg : Str → Option Value} {f : Addr} (X : K.In h) (G : h.Ns mainGlobals mg) (hfa : mg ("law" : Str) = some (.ref f)) (c : SaysG fa fn [] [] ex fg w h K) :
    ∃ fd : FuncData, (∀ (s : Shared) (v : Value), BindsTo s fd ⟨[v], []⟩ [("_law_script", v)]) ∧ ∀ base : Heap, K.In base → base.Ns mainGlobals mg → FnOk P w K mg base (L2.CX P w) 5 f fd ["_law_script"] (spLaw K) := by
  obtain ⟨fd0, F0⟩ := c.def_ 0 (d := d_is_number) rfl
  obtain ⟨fd1, F1⟩ := c.def_ 1 (d := d_l_taken) rfl
  obtain ⟨fd2, F2⟩ := c.def_ 2 (d := d_Lock_init) rfl
  obtain ⟨fd3, F3⟩ := c.def_ 3 (d := d_Lock_longer) rfl
  obtain ⟨fd4, F4⟩ := c.def_ 4 (d := d_most_refusals) rfl
  obtain ⟨fd5, F5⟩ := c.def_ 5 (d := d_least_time) rfl
  obtain ⟨fd6, F6⟩ := c.def_ 6 (d := d_law) rfl
  obtain ⟨gd0, G0⟩ := c.get 0 (d := getD "Lock" "tries" "Lock.tries" s_Lock_tries) rfl
  obtain ⟨gd1, G1⟩ := c.get 1 (d := getD "Lock" "growth" "Lock.growth" s_Lock_growth) rfl
  obtain ⟨e1, e2⟩ := ba c.x.more
  have cl := cls_ok (c.fact 13 (f := .cls "Lock") rfl)
  have T : Txt K mg (ga K "Lock") := {
    b_isinstance := free_ok X G (c.fact 0 (f := .free "isinstance") rfl)
    b_int := free_ok X G (c.fact 1 (f := .free "int") rfl)
    b_bool := free_ok X G (c.fact 2 (f := .free "bool") rfl)
    b_len := free_ok X G (c.fact 3 (f := .free "len") rfl)
    b_min := free_ok X G (c.fact 4 (f := .free "min") rfl)
    b_max := free_ok X G (c.fact 5 (f := .free "max") rfl)
    b_range := free_ok X G (c.fact 6 (f := .free "range") rfl)
    c_MOST_TRIES := gl_int X G (c.fact 7 (f := .int "MOST_TRIES" 9) rfl)
    c_MOST_PAUSE := gl_int X G (c.fact 8 (f := .int "MOST_PAUSE" 1000) rfl)
    c_MOST_GROWTH := gl_int X G (c.fact 9 (f := .int "MOST_GROWTH" 9) rfl)
    c_LONGEST := gl_int X G (c.fact 10 (f := .int "LONGEST" 1000000000) rfl)
    c_MOST_END := gl_int X G (c.fact 11 (f := .int "MOST_END" 1000000000000000) rfl)
    c_MOST_COUNT := gl_int X G (c.fact 12 (f := .int "MOST_COUNT" 1000000000) rfl)
    cl := cl
    n_bounds := noat_ok (c.fact 14 (f := .noat "Lock" "bounds") rfl) }
  have e := hfa.symm.trans (glo_ok X G (c.fact 22 (f := .glo "law") rfl))
  cases e
  have b := FunD.bindsA (ps := ["_law_script"]) F6 fun _ _ _ _ _ _ us hl => match us, hl with | [_], _ => rfl
  refine ⟨fd6, fun s v => b s [v] rfl, fun base _ _ => ?_⟩
  have D0 : DefOk P w K mg base 1 "is_number" P_is_number (spIsNumber K) := ⟨⟨_, ok_is_number T F0, F0.kp, glo_ok X G (c.fact 18 (f := .glo "is_number") rfl)⟩⟩
  have D1 : DefOk P w K mg base 1 "_law_taken" P_l_taken (spTaken K) := ⟨⟨_, ok_l_taken T F1, F1.kp, glo_ok X G (c.fact 19 (f := .glo "_law_taken") rfl)⟩⟩
  have D2 : MakeOk P w K mg base 2 "Lock" (ga K "Lock") P_Lock_init (spLockInit (ga K "Lock")) := ⟨⟨_, ok_Lock_init T D0 F2, mkr_ok (c.fact 15 (f := .mkr "Lock") rfl)⟩, glo_ok X G (c.fact 16 (f := .glo "Lock") rfl)⟩
  have D3 : MethOk P w K mg base 1 (ga K "Lock") "longer" P_Lock_longer (spLonger (ga K "Lock")) := ⟨⟨_, ok_Lock_longer T F3, meth_ok (c.fact 17 (f := .meth "Lock" "longer") rfl)⟩, cl⟩
  have D4 : DefOk P w K mg base 2 "most_refusals" P_most_refusals (spMost (ga K "Lock")) := ⟨⟨_, ok_most_refusals T D0 D3 F4, F4.kp, glo_ok X G (c.fact 20 (f := .glo "most_refusals") rfl)⟩⟩
  have D5 : DefOk P w K mg base 2 "least_time" P_least_time (spLeast (ga K "Lock")) := ⟨⟨_, ok_least_time T D0 D3 F5, F5.kp, glo_ok X G (c.fact 21 (f := .glo "least_time") rfl)⟩⟩
  have D6 : PrOk P w K mg base 1 (ga K "Lock") "tries" P_Lock_tries (spTries (ga K "Lock")) := ⟨⟨_, _, ok_Lock_tries T G0, propB_ok e1⟩, cl⟩
  have D7 : PrOk P w K mg base 1 (ga K "Lock") "growth" P_Lock_growth (spGrowth (ga K "Lock")) := ⟨⟨_, _, ok_Lock_growth T G1, propB_ok e2⟩, cl⟩
  exact ok_law T D0 D1 D2 D6 D7 D4 D5 F6
end T
open PySem PySem.W PySem.Calls PyProof.Rows
theorem PySem.Challenge.cw_loginstacks_k40_whole_bounds_of_locks_holds : PySem.Challenge.rw_loginstacks_k40_whole_bounds_of_locks.Holds := by
  w_on; o_law
  refine HandSHeadRun.head_any (r := OpenLaw.row PySem.Challenge.rw_loginstacks_k40_whole_bounds_of_locks) (q := view (OpenLaw.row PySem.Challenge.rw_loginstacks_k40_whole_bounds_of_locks).prog [18]) (H := T.hk) (ob := T.ob) (M := 2000) (loose := T.names) (d := HandSHeadRun.topDef (OpenLaw.row PySem.Challenge.rw_loginstacks_k40_whole_bounds_of_locks).prog 18) (kwd := []) G.obH_eq
    (by kernel_rfl) (fun s => by kernel_rfl) T.run (by kernel_rfl) (by kernel_rfl) (by kernel_rfl) (by rfl) (by first | assumption | decide +kernel) (by decide +kernel) ⟨rfl, rfl, rfl, rfl, rfl, by decide +kernel⟩ ?hw ?hc
  case hw => w_witness2
  case hc =>
    refine G.walk_G (l := PySem.Challenge.rw_loginstacks_k40_whole_bounds_of_locks) (n := 63) (k := 5) (x := "_law_script") rfl (by decide) (by kernel_rfl) ⟨rfl, by decide, by decide⟩ ?F
    intro w mg fa h Y G0 hmg0
    obtain ⟨K, KX, c⟩ := Y
    have hmg : mg ("law" : PySem.Str) = some (.ref fa) := by
      have e : (HandSHeadRun.topDef (OpenLaw.row PySem.Challenge.rw_loginstacks_k40_whole_bounds_of_locks).prog 18).name = ("law" : PySem.Str) := by kernel_rfl
      rw [← e]
      exact hmg0
    obtain ⟨fd, hb, hF⟩ := T.facts (P := (PySem.Challenge.rw_loginstacks_k40_whole_bounds_of_locks).prog) (w := w) KX G0 hmg c
    exact ⟨K, fd, T.spLaw K, KX, hb, fun H a ns hl hO hS => G.i_sp1 ⟨a, ns, rfl, G.Sc.of hO hS, fun _ => rfl⟩, hF⟩

