import PyProof.Rows.All
import Wide.All
import OpenK.AllK
import Wide.FinOn
import HandS.ForMost
import HandS.ForExc
import HandS.ExcInit
import HandS.IsInst
import HandS.Style
import HandS.Property
import HandS.Wide
import HandS.Defaults
import HandS.EndBits
import HandS.Flow
import HandS.More
import HandS.Words
import HandS.WordsExc
import HandS.Head0
import HandS.Head1
import HandS.Head2
import HandS.HeadEnd
import HandS.HeadHook1
import HandS.HeadHook2
import HandS.HeadHook3
import HandS.HeadHook4
import HandS.HeadWalk
import HandS.HeadNt
import HandS.Star
import HandS.TupAny
import HandS.DeepEq
import HandS.Strs
import HandS.SetFor
import HandS.Set
import KE.GoesEnum
import HandS.Iter
import KE.KDictZip
import KE.GoesZip
import KE.KEqDict
import KE.KDictOf
import PyProof.DictUpdate
import PyProof.DictCopy
import HandS.Conv
import PySem.Challenge.RW_loginstacks_k19_whole_stacks_within_stac
set_option Elab.async false
set_option linter.all false
set_option maxRecDepth 100000
set_option maxHeartbeats 4000000
/-! The engine: each reading's introduction, step by step. -/
namespace G
open PySem PySem.Spec L2
section
variable {σ : St} {H : Hp} {Q : VK} {v x y z : V} {i : Nat} {ta tb tc te tv : TE} {tt tu : TT} {K : PySem.W.Frag} {nx bk ct : St → Hp → Prop} {rt : VK} {t u : TS}
/-! ### expressions -/
theorem i_var (h : σ[i]? = some (some v)) (q : Q v H) : tVar i σ H Q := ⟨v, h, q⟩
theorem i_c (q : Q v H) : tC v σ H Q := q
theorem i_op {r : R2} (h : ta σ H fun x H1 => tb σ H1 fun y H2 => r x y H2 Q) : tOp r ta tb σ H Q := h
theorem i_un {r : V → Hp → VK → Prop} (h : ta σ H fun x H1 => r x H1 Q) : tUn r ta σ H Q := h
theorem i_I0 {g : Int → Int → V} {a b : Int} (q : Q (g a b) H) : rI0 g (.int a) (.int b) H Q := ⟨a, b, rfl, rfl, q⟩
theorem i_I {C : Int → Int → Prop} {g : Int → Int → V} {a b : Int} (c : C a b) (q : Q (g a b) H) : rI C g (.int a) (.int b) H Q := ⟨a, b, rfl, rfl, c, q⟩
theorem i_U {g : Int → V} {a : Int} (q : Q (g a) H) : rU g (.int a) H Q := ⟨a, rfl, q⟩
theorem i_eq (s : scal x y = true) (q : Q (.bl (decide (x = y))) H) : rEq x y H Q := ⟨s, q⟩
theorem i_ne (s : scal x y = true) (q : Q (.bl (!decide (x = y))) H) : rNe x y H Q := ⟨s, q⟩
theorem i_nil {Q : List V → Hp → Prop} (q : Q [] H) : tNil σ H Q := q
theorem i_cons {tr : TA} {Q : List V → Hp → Prop} (h : ta σ H fun x H1 => tr σ H1 fun xs H2 => Q (x :: xs) H2) : tCons ta tr σ H Q := h
theorem i_tup {t : TA} (h : t σ H fun xs H1 => xs.length ≤ sizeLine ∧ ∀ p, H1 p = none → Q (.ref p) (upd H1 p (.tup xs))) : tTup t σ H Q := h
theorem i_lst {t : TA} (h : t σ H fun xs H1 => xs.length ≤ sizeLine ∧ ∀ p, H1 p = none → Q (.ref p) (upd H1 p (.lst xs))) : tLst t σ H Q := h
theorem i_and {A B : Prop} (a : A) (b : B) : A ∧ B := ⟨a, b⟩
theorem i_call {sp : Sp} {dvs : List V} {E : XK} {t : TA} (h : t σ H fun vs H1 => sp (vs ++ dvs) H1 Q E) : tCall sp dvs E t σ H Q := h
theorem i_cb {r : List V → Hp → VK → Prop} {t : TA} (h : t σ H fun vs H1 => r vs H1 Q) : tCB r t σ H Q := h
theorem i_if (h : tt σ H fun c H1 => if c = true then ta σ H1 Q else tb σ H1 Q) : tIf tt ta tb σ H Q := h
theorem i_andV (h : ta σ H fun x H1 => ∃ c, x = .bl c ∧ if c = true then tb σ H1 Q else Q (.bl false) H1) : tAndV ta tb σ H Q := h
theorem i_orV (h : ta σ H fun x H1 => ∃ c, x = .bl c ∧ if c = true then Q (.bl true) H1 else tb σ H1 Q) : tOrV ta tb σ H Q := h
theorem i_notV (h : ta σ H fun x H1 => ∃ c, x = .bl c ∧ Q (.bl (!c)) H1) : tNotV ta σ H Q := h
theorem i_chain {r r' : R2} (h : ta σ H fun x H1 => tb σ H1 fun y H2 => r x y H2 fun z H3 => ∃ k, z = .bl k ∧ (if k = true then tc σ H3 fun w' H4 => r' y w' H4 Q else Q (.bl false) H3)) : tChain r r' ta tb tc σ H Q := h
theorem i_exb {P : Bool → Prop} {b : Bool} (q : P b) : ∃ k, V.bl b = V.bl k ∧ P k := ⟨b, rfl, q⟩
theorem i_fld {f : Str} (h : ta σ H fun x H1 => ∃ a C dx fs v, x = .ref a ∧ H1 a = some (.ins C dx fs) ∧ Cls K C ∧ NoAttr K C f ∧ fs.lookup f = some v ∧ Q v H1) : tFld K ta f σ H Q := h
theorem i_exfld {a C dx : Addr} {f : Str} {fs : List (Str × V)} {R : V → Prop} (h : H a = some (.ins C dx fs)) (c : Cls K C) (n : NoAttr K C f) (l : fs.lookup f = some v) (q : R v) :
    ∃ a' C dx fs v, V.ref a = V.ref a' ∧ H a' = some (.ins C dx fs) ∧ Cls K C ∧ NoAttr K C f ∧ fs.lookup f = some v ∧ R v := ⟨a, C, dx, fs, v, rfl, h, c, n, l, q⟩
theorem e_len {α : Type} {xs : List α} {B : Prop} (h : Nat.ble xs.length 1000 = true) (b : B) : xs.length ≤ sizeLine ∧ B := ⟨Nat.le_trans (Nat.le_of_ble_eq_true h) (by decide), b⟩
theorem i_prop {C : Addr} {sp : Sp} {dvs : List V} {E : XK} (h : ta σ H fun x H1 => ∃ a dx fs, x = .ref a ∧ H1 a = some (.ins C dx fs) ∧ sp (.ref a :: dvs) H1 Q E) : tProp C sp dvs E ta σ H Q := h
theorem i_ixL {p : Addr} {xs : List V} {a : Int} (h : SqL K H p xs) (e : atI xs a = some v) (q : Q v H) : rIx K (.ref p) (.int a) H Q := .inl ⟨p, xs, a, v, rfl, rfl, h, e, q⟩
theorem i_ixT {p : Addr} {xs : List V} {a : Int} (h : SqT K H p xs) (e : atI xs a = some v) (q : Q v H) : rIx K (.ref p) (.int a) H Q := .inr (.inl ⟨p, xs, a, v, rfl, rfl, h, e, q⟩)
theorem i_ixS {s : Str} {a : Int} {c : Nat} (h : s.length ≤ sizeLine) (e : atI s.cps.toList a = some c) (q : Q (.str ⟨#[c]⟩) H) : rIx K (.str s) (.int a) H Q := .inr (.inr ⟨s, a, c, rfl, rfl, h, e, q⟩)
/-! ### tests -/
theorem i_test {Q : Bool → Hp → Prop} (h : te σ H fun x H' => ∃ k, x = .bl k ∧ Q k H') : tTest te σ H Q := h
theorem i_B {Q : Bool → Hp → Prop} (h : te σ H fun x H' => ∃ k, x = .bl k ∧ Q k H') : tB te σ H Q := h
theorem i_tand {Q : Bool → Hp → Prop} (h : tt σ H fun c H1 => if c = true then tu σ H1 Q else Q false H1) : tAnd tt tu σ H Q := h
theorem i_tor {Q : Bool → Hp → Prop} (h : tt σ H fun c H1 => if c = true then Q true H1 else tu σ H1 Q) : tOr tt tu σ H Q := h
theorem i_tnot {Q : Bool → Hp → Prop} (h : tt σ H fun c H1 => Q (!c) H1) : tNot tt σ H Q := h
theorem i_yes {Q : Bool → Hp → Prop} (q : Q true H) : tYes σ H Q := q
/-! ### statements -/
theorem s_seq (h : t ⟨u ⟨nx, rt, bk, ct⟩, rt, bk, ct⟩ σ H) : tSeq t u ⟨nx, rt, bk, ct⟩ σ H := h
theorem s_next (h : nx σ H) : tNext ⟨nx, rt, bk, ct⟩ σ H := h
theorem s_asg {g : TG} (h : te σ H fun x H1 => g x σ H1 nx) : tAsg te g ⟨nx, rt, bk, ct⟩ σ H := h
theorem s_ret (h : te σ H rt) : tRet te ⟨nx, rt, bk, ct⟩ σ H := h
theorem s_retN (h : rt .non H) : tRetN ⟨nx, rt, bk, ct⟩ σ H := h
theorem s_drop (h : te σ H fun _ H1 => nx σ H1) : tDrop te ⟨nx, rt, bk, ct⟩ σ H := h
theorem s_if (h : tt σ H fun b H1 => if b = true then t ⟨nx, rt, bk, ct⟩ σ H1 else u ⟨nx, rt, bk, ct⟩ σ H1) : tIfS tt t u ⟨nx, rt, bk, ct⟩ σ H := h
theorem s_break (h : bk σ H) : tBreak ⟨nx, rt, bk, ct⟩ σ H := h
theorem s_cont (h : ct σ H) : tCont ⟨nx, rt, bk, ct⟩ σ H := h
theorem g_name {Q : St → Hp → Prop} (h : Q (σ.set i (some v)) H) : gName i v σ H Q := h
theorem g_tup {n : Nat} {tg : TGs} {a : Addr} {xs : List V} {Q : St → Hp → Prop} (h : SqT K H a xs) (l : xs.length = n) (q : tg xs σ H Q) : gTup K n tg (.ref a) σ H Q := ⟨a, xs, rfl, h, l, q⟩
theorem g_cons {tg : TG} {tgs : TGs} {xs : List V} {Q : St → Hp → Prop} (h : tg v σ H fun σ' H' => tgs xs σ' H' Q) : gCons tg tgs (v :: xs) σ H Q := ⟨v, xs, rfl, h⟩
theorem g_nil {Q : St → Hp → Prop} (h : Q σ H) : gNil [] σ H Q := ⟨rfl, h⟩
theorem s_aug {f : Int → Int → Int} {te : TE} {a : Int} (hx : σ[i]? = some (some (.int a))) (h : te σ H fun y H1 => ∃ b, y = V.int b ∧ nx (σ.set i (some (.int (f a b)))) H1) : tAug i te (ipI f) ⟨nx, rt, bk, ct⟩ σ H := ⟨.int a, hx, by
  have key : (fun y H1 => ∃ b, y = V.int b ∧ nx (σ.set i (some (.int (f a b)))) H1) = fun y H1 => ipI f (.int a) y H1 fun z H2 => nx (σ.set i (some z)) H2 := by
    funext y H1
    apply propext
    constructor
    · rintro ⟨b, rfl, q⟩
      exact ⟨a, b, rfl, rfl, q⟩
    · rintro ⟨a', b, e, rfl, q⟩
      cases e
      exact ⟨b, rfl, q⟩
  rw [key] at h
  exact h⟩
end
end G

set_option Elab.async false
set_option linter.all false
set_option maxRecDepth 100000
set_option maxHeartbeats 4000000
namespace G
open PySem PySem.Spec L2
/-! ### promises by the number of arguments -/
def Sp0 (P : Hp → VK → XK → Prop) : Sp := fun vs H Q E => vs = [] ∧ P H Q E
def Sp1 (P : V → Hp → VK → XK → Prop) : Sp := fun vs H Q E => ∃ a, vs = [a] ∧ P a H Q E
def Sp2 (P : V → V → Hp → VK → XK → Prop) : Sp := fun vs H Q E => ∃ a b, vs = [a, b] ∧ P a b H Q E
def Sp3 (P : V → V → V → Hp → VK → XK → Prop) : Sp := fun vs H Q E => ∃ a b c, vs = [a, b, c] ∧ P a b c H Q E
def Sp4 (P : V → V → V → V → Hp → VK → XK → Prop) : Sp := fun vs H Q E => ∃ a b c d, vs = [a, b, c, d] ∧ P a b c d H Q E
def Sp5 (P : V → V → V → V → V → Hp → VK → XK → Prop) : Sp := fun vs H Q E => ∃ a b c d e, vs = [a, b, c, d, e] ∧ P a b c d e H Q E
section
variable {P1 : V → Hp → VK → XK → Prop} {P2 : V → V → Hp → VK → XK → Prop} {P3 : V → V → V → Hp → VK → XK → Prop} {P4 : V → V → V → V → Hp → VK → XK → Prop} {P5 : V → V → V → V → V → Hp → VK → XK → Prop} {P0 : Hp → VK → XK → Prop} {a b c d e : V} {H : Hp} {Q : VK} {E : XK} {vs : List V}
theorem i_sp0 (h : P0 H Q E) : Sp0 P0 ([] ++ []) H Q E := ⟨rfl, h⟩
theorem i_sp1 (h : P1 a H Q E) : Sp1 P1 ([a] ++ []) H Q E := ⟨a, rfl, h⟩
theorem i_sp2 (h : P2 a b H Q E) : Sp2 P2 ([a, b] ++ []) H Q E := ⟨a, b, rfl, h⟩
theorem i_sp3 (h : P3 a b c H Q E) : Sp3 P3 ([a, b, c] ++ []) H Q E := ⟨a, b, c, rfl, h⟩
theorem i_sp4 (h : P4 a b c d H Q E) : Sp4 P4 ([a, b, c, d] ++ []) H Q E := ⟨a, b, c, d, rfl, h⟩
theorem i_sp5 (h : P5 a b c d e H Q E) : Sp5 P5 ([a, b, c, d, e] ++ []) H Q E := ⟨a, b, c, d, e, rfl, h⟩
/-- the receiver ahead (tMeth, tMake, tProp) -/
theorem m_sp1 (h : P1 a H Q E) : Sp1 P1 (a :: ([] ++ [])) H Q E := ⟨a, rfl, h⟩
theorem m_sp1' (h : P1 a H Q E) : Sp1 P1 (a :: []) H Q E := ⟨a, rfl, h⟩
theorem m_sp2 (h : P2 a b H Q E) : Sp2 P2 (a :: ([b] ++ [])) H Q E := ⟨a, b, rfl, h⟩
theorem m_sp3 (h : P3 a b c H Q E) : Sp3 P3 (a :: ([b, c] ++ [])) H Q E := ⟨a, b, c, rfl, h⟩
theorem m_sp4 (h : P4 a b c d H Q E) : Sp4 P4 (a :: ([b, c, d] ++ [])) H Q E := ⟨a, b, c, d, rfl, h⟩
theorem m_sp5 (h : P5 a b c d e H Q E) : Sp5 P5 (a :: ([b, c, d, e] ++ [])) H Q E := ⟨a, b, c, d, e, rfl, h⟩
end
/-- how many arguments a promise speaks of -/
def Len (sp : Sp) (n : Nat) : Prop := ∀ vs H Q E, sp vs H Q E → vs.length = n
theorem len0 {P} : Len (Sp0 P) 0 := by rintro _ _ _ _ ⟨rfl, _⟩; rfl
theorem len1 {P} : Len (Sp1 P) 1 := by rintro _ _ _ _ ⟨_, rfl, _⟩; rfl
theorem len2 {P} : Len (Sp2 P) 2 := by rintro _ _ _ _ ⟨_, _, rfl, _⟩; rfl
theorem len3 {P} : Len (Sp3 P) 3 := by rintro _ _ _ _ ⟨_, _, _, rfl, _⟩; rfl
theorem len4 {P} : Len (Sp4 P) 4 := by rintro _ _ _ _ ⟨_, _, _, _, rfl, _⟩; rfl
theorem len5 {P} : Len (Sp5 P) 5 := by rintro _ _ _ _ ⟨_, _, _, _, _, rfl, _⟩; rfl

/-! ### a def that keeps its promise: as a global function, a method, a constructor, a property -/
section
variable (P : Program) (w : World) (K : PySem.W.Frag) (mg : Str → Option Value) (base : Heap)
structure KeepsAt (k : Nat) (ps : List Str) (sp : Sp) (f : Addr) : Prop where
  ex : ∃ fd, FnOk P w K mg base (L2.CX P w) k f fd ps sp ∧ Binds K fd ps []
structure DefOk (k : Nat) (x : Str) (ps : List Str) (sp : Sp) : Prop where
  ex : ∃ f, KeepsAt P w K mg base k ps sp f ∧ PySem.W.keepIn K (.ref f) = true ∧ mg x = some (.ref f)
structure MethOk (k : Nat) (C : Addr) (m : Str) (ps : List Str) (sp : Sp) : Prop where
  ex : ∃ f, KeepsAt P w K mg base k ps sp f ∧ Meth K C m f
  cl : Cls K C
structure MakeOk (k : Nat) (x : Str) (C : Addr) (ps : List Str) (sp : Sp) : Prop where
  ex : ∃ f, KeepsAt P w K mg base k ps sp f ∧ Mk K C f
  mg : mg x = some (.ref C)
structure PrOk (k : Nat) (C : Addr) (m : Str) (ps : List Str) (sp : Sp) : Prop where
  ex : ∃ p g, KeepsAt P w K mg base k ps sp g ∧ PropOf K C m p g
  cl : Cls K C
end
section
variable {P : Program} {w : World} {K : PySem.W.Frag} {mg : Str → Option Value} {base : Heap}
/-- THE RULE for a def -/
theorem keeps {x qual : Str} {params : Arguments} {body : List Stmt} {scope : Scope} {f : Addr} {fd : FuncData} {N ps : List Str} {k : Nat} {sp : Sp} (F : FunD K x qual params body scope [] [] f fd) (S : FnScope N ps scope) (len : Len sp ps.length)
    (hb : ∀ (kV doc pm : Value) (an : Option Addr) (cdv ct : Value) (us : List Value), us.length = ps.length → bindArgs (PySem.W.fnOf x qual params body scope .none kV doc pm an cdv ct) ⟨us, []⟩ = pure (ps.zip us))
    (hbody : ∀ (cdv : Value) (A : Around) (outer : List Env) (s : Shared) (H : Hp) (vs : List V) (Q : VK) (E : XK), Room k (A.deeper (PyProof.Rows.envOfC qual scope s.heap.objs.size f cdv)) → sp vs H Q E →
      ∃ t, PSs (cxOf (L2.CX P w) P w K mg base N qual scope f cdv A outer s H E) body t ∧ t { nx := fun _ H' => Q .non H', rt := Q } (start N vs) H) : KeepsAt P w K mg base (k + 1) ps sp f :=
  ⟨fd, F.ok S len hbody, F.bindsN hb⟩
/-- the law's own def: over a function object that is told -/
theorem keepsF {x qual : Str} {params : Arguments} {body : List Stmt} {scope : Scope} {f : Addr} {fd : FuncData} {N ps : List Str} {k : Nat} {sp : Sp} (F : FunD K x qual params body scope [] [] f fd) (S : FnScope N ps scope) (len : Len sp ps.length)
    (hbody : ∀ (cdv : Value) (A : Around) (outer : List Env) (s : Shared) (H : Hp) (vs : List V) (Q : VK) (E : XK), Room k (A.deeper (PyProof.Rows.envOfC qual scope s.heap.objs.size f cdv)) → sp vs H Q E →
      ∃ t, PSs (cxOf (L2.CX P w) P w K mg base N qual scope f cdv A outer s H E) body t ∧ t { nx := fun _ H' => Q .non H', rt := Q } (start N vs) H) : FnOk P w K mg base (L2.CX P w) (k + 1) f fd ps sp :=
  F.ok S len hbody
theorem KeepsAt.mono {k k' : Nat} {ps : List Str} {sp : Sp} {f : Addr} (h : KeepsAt P w K mg base k ps sp f) (hk : k ≤ k') : KeepsAt P w K mg base k' ps sp f := by
  obtain ⟨fd, G, b⟩ := h.ex
  exact ⟨fd, ⟨G.len, fun A outer s H args us vs Q E hr => G.run A outer s H args us vs Q E (hr.mono hk)⟩, b⟩
end
section
variable {X : Cx} {k j : Nat} {x m : Str} {C : Addr} {ps : List Str} {sp : Sp} {E : XK} {e o : Expr} {es : List Expr} {t : TA} {to : TE} {p pos apos : Pos}
theorem pe_callD (D : DefOk X.prog X.w X.K X.mg X.base k x ps sp) (hr : Room k X.A) (hx : Passes (L2.CX X.prog X.w) X E) (ha : PA X (e :: es) t) (hg : Gl X x := by rfl)
    (hdb : (x == ("__debug__" : Str)) = false := by decide) (he : starEach (e :: es) X.env = (false, eval e X.env) :: starEach es X.env := by rfl) (hpl : (backTo pos (starEach es X.env)).any (·.1) = false := by rfl) :
    PE X (.Call (.Name x p) (e :: es) [] pos) (tCall sp [] E t) := by
  obtain ⟨f, ⟨fd, F, b⟩, kp, hm⟩ := D.ex
  exact pe_call F hr hg hm kp b .nil hx ha hdb he hpl
theorem pe_call0D (D : DefOk X.prog X.w X.K X.mg X.base k x ps sp) (hr : Room k X.A) (hx : Passes (L2.CX X.prog X.w) X E) (hg : Gl X x := by rfl)
    (hdb : (x == ("__debug__" : Str)) = false := by decide) : PE X (.Call (.Name x p) [] [] pos) (tCall sp [] E tNil) := by
  obtain ⟨f, ⟨fd, F, b⟩, kp, hm⟩ := D.ex
  exact pe_call0 F hr hg hm kp b .nil hx hdb
theorem pe_methD {pl : Sem Bool} (D : MethOk X.prog X.w X.K X.mg X.base k C m ps sp) (hr : Room k X.A) (hx : Passes (L2.CX X.prog X.w) X E) (he : PE X o to) (ha : PA X (e :: es) t)
    (hst : starEach (e :: es) X.env = (false, eval e X.env) :: starEach es X.env := by rfl) (hpl : (backTo pos (starEach es X.env)).any (·.1) = false := by rfl)
    (ht : eval (.Call (.Attribute o m apos) (e :: es) [] pos) X.env = (do
      let ov ← eval o X.env
      standAt apos.atName
      let (f, first) ← holding [ov] (getMethod ov m pl)
      callWith pos f first (backTo pos (starEach (e :: es) X.env)) (backToKw pos (keywordEach [] X.env))) := by rfl) :
    PE X (.Call (.Attribute o m apos) (e :: es) [] pos) (tMeth C m sp [] E to t) := by
  obtain ⟨f, ⟨fd, F, b⟩, hm⟩ := D.ex
  exact pe_meth he D.cl hm F hr b .nil hx ha hst hpl ht
theorem pe_meth0D {pl : Sem Bool} (D : MethOk X.prog X.w X.K X.mg X.base k C m ps sp) (hr : Room k X.A) (hx : Passes (L2.CX X.prog X.w) X E) (he : PE X o to)
    (ht : eval (.Call (.Attribute o m apos) [] [] pos) X.env = (do
      let ov ← eval o X.env
      standAt apos.atName
      let (f, first) ← holding [ov] (getMethod ov m pl)
      callWith pos f first (backTo pos (starEach [] X.env)) (backToKw pos (keywordEach [] X.env))) := by rfl) :
    PE X (.Call (.Attribute o m apos) [] [] pos) (tMeth C m sp [] E to tNil) := by
  obtain ⟨f, ⟨fd, F, b⟩, hm⟩ := D.ex
  exact pe_meth0 he D.cl hm F hr b .nil hx ht
theorem pe_makeD (D : MakeOk X.prog X.w X.K X.mg X.base k x C ps sp) (hr : Room (k + 1) X.A) (hx : Passes (L2.CX X.prog X.w) X E) (ha : PA X (e :: es) t) (hg : Gl X x := by rfl)
    (hdb : (x == ("__debug__" : Str)) = false := by decide) (he : starEach (e :: es) X.env = (false, eval e X.env) :: starEach es X.env := by rfl) (hpl : (backTo pos (starEach es X.env)).any (·.1) = false := by rfl) :
    PE X (.Call (.Name x p) (e :: es) [] pos) (tMake C sp [] E t) := by
  obtain ⟨f, ⟨fd, F, b⟩, M⟩ := D.ex
  exact pe_make M F hr hg D.mg b .nil hx ha hdb he hpl
theorem pe_make0D (D : MakeOk X.prog X.w X.K X.mg X.base k x C ps sp) (hr : Room (k + 1) X.A) (hx : Passes (L2.CX X.prog X.w) X E) (hg : Gl X x := by rfl)
    (hdb : (x == ("__debug__" : Str)) = false := by decide) : PE X (.Call (.Name x p) [] [] pos) (tMake C sp [] E tNil) := by
  obtain ⟨f, ⟨fd, F, b⟩, M⟩ := D.ex
  exact pe_make0 M F hr hg D.mg b .nil hx hdb
theorem pe_propD (D : PrOk X.prog X.w X.K X.mg X.base k C m ps sp) (hr : Room (k + 1) X.A) (hx : Passes (L2.CX X.prog X.w) X.nox E) (he : PE X o to)
    (hab : attributeBase o m X.env (eval o X.env) = eval o X.env := by rfl) : PE X (.Attribute o m pos) (tProp C sp [] E to) := by
  obtain ⟨p, g, ⟨fd, F, b⟩, hp⟩ := D.ex
  exact pe_prop he D.cl hp F hr b .nil hx hab
/-- what a def's body may let out is what its caller wishes -/
theorem passX (hs : X.stack = X.env :: X.outer) (tk : Takes X fun c d _ H => E c d H) : Passes (L2.CX X.prog X.w) X E := passes_call tk fun _ _ _ _ h => h
end
/-! ### making, methods -/
section
variable {σ : St} {H : Hp} {Q : VK} {C : Addr} {sp : Sp} {E : XK} {t : TA} {to : TE} {m : Str} {dvs : List V}
theorem i_make (h : t σ H fun vs H1 => ∀ x dx, H1 x = none → H1 dx = none → dx ≠ x → sp (.ref x :: (vs ++ dvs)) (upd (upd H1 dx (.own x)) x (.ins C dx [])) (fun v H2 => v = .non ∧ Q (.ref x) H2) E) : tMake C sp dvs E t σ H Q := h
theorem i_meth (h : to σ H fun x H1 => ∃ a dx fs, x = .ref a ∧ H1 a = some (.ins C dx fs) ∧ fs.lookup m = none ∧ t σ H1 fun vs H2 => sp (x :: (vs ++ dvs)) H2 Q E) : tMeth C m sp dvs E to t σ H Q := h
theorem i_exmeth {a dx : Addr} {fs : List (Str × V)} {R : Prop} (h : H a = some (.ins C dx fs)) (l : fs.lookup m = none) (q : R) : ∃ a' dx fs, V.ref a = V.ref a' ∧ H a' = some (.ins C dx fs) ∧ fs.lookup m = none ∧ R := ⟨a, dx, fs, rfl, h, l, q⟩
theorem i_exprop {a dx : Addr} {fs : List (Str × V)} {R : Addr → Prop} (h : H a = some (.ins C dx fs)) (q : R a) : ∃ a' dx fs, V.ref a = V.ref a' ∧ H a' = some (.ins C dx fs) ∧ R a' := ⟨a, dx, fs, rfl, h, q⟩
end
end G

set_option Elab.async false
set_option linter.all false
set_option maxRecDepth 100000
set_option maxHeartbeats 4000000
namespace G
open PySem PySem.Spec L2
/-! ### the built-in names -/
theorem bt_len : bootBuiltins "len" = some (.builtin "len") := by decide +kernel
theorem bt_isinstance : bootBuiltins "isinstance" = some (.builtin "isinstance") := by decide +kernel
theorem bt_abs : bootBuiltins "abs" = some (.builtin "abs") := by decide +kernel
theorem bt_sum : bootBuiltins "sum" = some (.builtin "sum") := by decide +kernel
theorem bt_all : bootBuiltins "all" = some (.builtin "all") := by decide +kernel
theorem bt_any : bootBuiltins "any" = some (.builtin "any") := by decide +kernel
theorem bt_min : bootBuiltins "min" = some (.builtin "min") := by decide +kernel
theorem bt_max : bootBuiltins "max" = some (.builtin "max") := by decide +kernel
theorem bt_sorted : bootBuiltins "sorted" = some (.builtin "sorted") := by decide +kernel
theorem bt_int : bootBuiltins "int" = some (.type "int") := by decide +kernel
theorem bt_bool : bootBuiltins "bool" = some (.type "bool") := by decide +kernel
theorem bt_str : bootBuiltins "str" = some (.type "str") := by decide +kernel
theorem bt_tuple : bootBuiltins "tuple" = some (.type "tuple") := by decide +kernel
theorem bt_list : bootBuiltins "list" = some (.type "list") := by decide +kernel
theorem bt_dict : bootBuiltins "dict" = some (.type "dict") := by decide +kernel
theorem bt_set : bootBuiltins "set" = some (.type "set") := by decide +kernel
theorem bt_range : bootBuiltins "range" = some (.type "range") := by decide +kernel
theorem bt_enumerate : bootBuiltins "enumerate" = some (.type "enumerate") := by decide +kernel
theorem bt_zip : bootBuiltins "zip" = some (.type "zip") := by decide +kernel
/-- a module's name and what it holds -/
def GlV (mg : Str → Option Value) (x : Str) (v : V) : Prop := ∃ u, mg x = some u ∧ RelV v u
theorem pe_glv {X : Cx} {x : Str} {v : V} {pos : Pos} (h : GlV X.mg x v) (hg : Gl X x) (hd : (x == ("__debug__" : Str)) = false := by decide) : PE X (.Name x pos) (tC v) := by
  obtain ⟨u, hm, r⟩ := h
  exact pe_glob hg hm r hd
theorem pe_ty {X : Cx} {x : Str} {n : String} {pos : Pos} (hg : Gl X x) (hm : X.mg x = none) (hv : bootBuiltins x = some (.type n)) (hn : x ≠ "__name__" := by decide) (hd : (x == ("__debug__" : Str)) = false := by decide) : PE X (.Name x pos) (tC (.ty n)) :=
  pe_bltn hg hm hv rfl hn hd
/-! ### operators of several kinds -/
def rOr (r r' : R2) : R2 := fun x y H Q => r x y H Q ∨ r' x y H Q
theorem OpR.or {X : Cx} {f : Value → Value → Sem Value} {r r' : R2} (h : OpR X f r) (h' : OpR X f r') : OpR X f (rOr r r') := by
  intro pins s σ H x y v u Q I rx ry q
  rcases q with q | q
  · exact h pins s σ H x y v u Q I rx ry q
  · exact h' pins s σ H x y v u Q I rx ry q
/-! ### isinstance -/
section
variable {K : PySem.W.Frag} {H : Hp} {Q : VK} {x : V}
theorem i_isi {a b : String} {r : Bool} (ty : TyX K H x (.type a)) (h : kitB a b = some r) (q : Q (.bl r) H) : rIsi K [x, .ty b] H Q := ⟨x, .ty b, _, _, r, rfl, .ty b, ty, kit_ty h, q⟩
theorem kb_int_int : kitB "int" "int" = some true := by decide +kernel
theorem kb_int_bool : kitB "int" "bool" = some false := by decide +kernel
theorem kb_int_str : kitB "int" "str" = some false := by decide +kernel
theorem kb_int_tuple : kitB "int" "tuple" = some false := by decide +kernel
theorem kb_bool_int : kitB "bool" "int" = some true := by decide +kernel
theorem kb_bool_bool : kitB "bool" "bool" = some true := by decide +kernel
theorem kb_bool_str : kitB "bool" "str" = some false := by decide +kernel
theorem kb_bool_tuple : kitB "bool" "tuple" = some false := by decide +kernel
theorem kb_str_int : kitB "str" "int" = some false := by decide +kernel
theorem kb_str_bool : kitB "str" "bool" = some false := by decide +kernel
theorem kb_str_str : kitB "str" "str" = some true := by decide +kernel
theorem kb_str_tuple : kitB "str" "tuple" = some false := by decide +kernel
theorem kb_non_int : kitB "NoneType" "int" = some false := by decide +kernel
theorem kb_non_bool : kitB "NoneType" "bool" = some false := by decide +kernel
theorem kb_non_str : kitB "NoneType" "str" = some false := by decide +kernel
theorem kb_non_tuple : kitB "NoneType" "tuple" = some false := by decide +kernel
theorem kb_tuple_int : kitB "tuple" "int" = some false := by decide +kernel
theorem kb_tuple_bool : kitB "tuple" "bool" = some false := by decide +kernel
theorem kb_tuple_str : kitB "tuple" "str" = some false := by decide +kernel
theorem kb_tuple_tuple : kitB "tuple" "tuple" = some true := by decide +kernel
end
/-- the number that a value is, if it is one in a range -/
def numIn : V → Int → Int → Bool
  | .int i, lo, hi => decide (lo ≤ i) && decide (i ≤ hi)
  | _, _, _ => false
/-- a value whose type is told: None, a bool, an int, a text, a tuple -/
inductive Plain (K : PySem.W.Frag) (H : Hp) : V → Prop
  | non : Plain K H .non
  | bl (b : Bool) : Plain K H (.bl b)
  | int (i : Int) : Plain K H (.int i)
  | str (x : Str) : Plain K H (.str x)
  | tup (p : Addr) (h : TyX K H (.ref p) (.type "tuple")) : Plain K H (.ref p)
theorem Plain.ty {K : PySem.W.Frag} {H : Hp} {x : V} (p : Plain K H x) : ∃ n : String, TyX K H x (.type n) ∧ (∀ b, b ∈ ["int", "bool", "str", "tuple"] → ∃ r, kitB n b = some r) := by
  cases p with
  | non => exact ⟨"NoneType", .base .non, by decide +kernel⟩
  | bl b => exact ⟨"bool", .base (.bl b), by decide +kernel⟩
  | int i => exact ⟨"int", .base (.int i), by decide +kernel⟩
  | str y => exact ⟨"str", .base (.str y), by decide +kernel⟩
  | tup p h => exact ⟨"tuple", h, by decide +kernel⟩
/-- is_number(thing, low, high) -/
def spIsNumber (K : PySem.W.Frag) : Sp := Sp3 fun a b c H Q _ => ∃ lo hi : Int, b = .int lo ∧ c = .int hi ∧ Plain K H a ∧ Q (.bl (numIn a lo hi)) H
theorem i_spIsNumber {K : PySem.W.Frag} {a : V} {lo hi : Int} {H : Hp} {Q : VK} {E : XK} (p : Plain K H a) (q : Q (.bl (numIn a lo hi)) H) : spIsNumber K ([a, .int lo, .int hi] ++ []) H Q E := i_sp3 ⟨lo, hi, rfl, rfl, p, q⟩
end G

set_option Elab.async false
set_option linter.all false
set_option maxRecDepth 100000
set_option maxHeartbeats 4000000
namespace G
open PySem PySem.Spec L2
section
variable {σ : L2.St} {H : Hp} {Q : VK} {v x y z : V} {i : Nat} {ta tb tc te tv : TE} {tt tu : TT} {K : PySem.W.Frag} {nx bk ct : L2.St → Hp → Prop} {rt : VK} {t u : TS} {g : TG} {wi : TI} {tbd : TS}
theorem iteNT {A B : Prop} (h : A) : if (!false) = true then A else B := by rw [if_pos (show (!false) = true from rfl)]; exact h
theorem iteNF {A B : Prop} (h : B) : if (!true) = true then A else B := by rw [if_neg (by decide)]; exact h
theorem iteB {A B : Prop} {b : Bool} (h1 : b = true → A) (h2 : b = false → B) : if b = true then A else B := by
  cases b with
  | true => rw [if_pos rfl]; exact h1 rfl
  | false => rw [if_neg Bool.false_ne_true]; exact h2 rfl
theorem iteY {A B : Prop} {b : Bool} (e : b = true) (h : A) : if b = true then A else B := by rw [if_pos e]; exact h
theorem iteN {A B : Prop} {b : Bool} (e : b = false) (h : B) : if b = true then A else B := by rw [e, if_neg Bool.false_ne_true]; exact h
/-! ### loops -/
theorem s_for (h : wi σ H fun J H1 => ∃ W : Nat → Nat → L2.St → Hp → Prop, (∃ m, W 0 m σ H1) ∧ ∀ i m σ H, W i m σ H → (J.stop i H ∧ nx σ H) ∨ (J.go i H ∧ ∃ N : L2.St → Hp → Prop, (∀ σ' H', N σ' H' → ∃ m', m' < m ∧ W (i + 1) m' σ' H') ∧ ∀ x H', J.yld i H x H' → g x σ H' fun σ2 H2 => tbd ⟨N, rt, nx, N⟩ σ2 H2)) : tFor wi g tbd ⟨nx, rt, bk, ct⟩ σ H := h
theorem s_seqIf {a b : TS} (h : tIfS tt a b ⟨u ⟨nx, rt, bk, ct⟩, rt, bk, ct⟩ σ H) : tSeq (tIfS tt a b) u ⟨nx, rt, bk, ct⟩ σ H := h
/-- what follows a statement, once for all its ways -/
theorem s_cut (I : L2.St → Hp → Prop) (h2 : ∀ σ' H', I σ' H' → u ⟨nx, rt, bk, ct⟩ σ' H') (h1 : (∀ σ' H', I σ' H' → u ⟨nx, rt, bk, ct⟩ σ' H') → t ⟨u ⟨nx, rt, bk, ct⟩, rt, bk, ct⟩ σ H) : tSeq t u ⟨nx, rt, bk, ct⟩ σ H := h1 h2
theorem i_rng1 {R : It → Hp → Prop} {ta : TA} (h : ta σ H fun vs H1 => ∃ j : Int, vs = [.int j] ∧ -(2 ^ 62) ≤ j ∧ j < 2 ^ 62 ∧ R (Itr 0 j.toNat) H1) : iRng1 ta σ H R := h
theorem i_rng2 {R : It → Hp → Prop} {ta : TA} (h : ta σ H fun vs H1 => ∃ i j : Int, vs = [.int i, .int j] ∧ (-(2 ^ 62) ≤ i ∧ i < 2 ^ 62 ∧ -(2 ^ 62) ≤ j ∧ j < 2 ^ 62) ∧ R (Itr i (j - i).toNat) H1) : iRng2 ta σ H R := h
theorem i_ilist {R : It → Hp → Prop} (h : te σ H fun x H1 => ∃ a, x = .ref a ∧ (∃ xs, SqL K H1 a xs) ∧ R (Itl K a) H1) : iList K te σ H R := h
theorem i_itup {R : It → Hp → Prop} (h : te σ H fun x H1 => ∃ a, x = .ref a ∧ (∃ xs, SqT K H1 a xs) ∧ R (Itt K a) H1) : iTup K te σ H R := h
theorem l_range {lo : Int} {n : Nat} (Pv : Nat → L2.St → Hp → Prop) (h0 : Pv 0 σ H) (hs : ∀ i σ H, i < n → Pv i σ H → g (.int (lo + i)) σ H fun σ2 H2 => tbd ⟨Pv (i + 1), rt, nx, Pv (i + 1)⟩ σ2 H2) (hd : ∀ σ H, Pv n σ H → nx σ H) :
    ∃ W : Nat → Nat → L2.St → Hp → Prop, (∃ m, W 0 m σ H) ∧ ∀ i m σ H, W i m σ H → ((Itr lo n).stop i H ∧ nx σ H) ∨ ((Itr lo n).go i H ∧ ∃ N : L2.St → Hp → Prop, (∀ σ' H', N σ' H' → ∃ m', m' < m ∧ W (i + 1) m' σ' H') ∧ ∀ x H', (Itr lo n).yld i H x H' → g x σ H' fun σ2 H2 => tbd ⟨N, rt, nx, N⟩ σ2 H2) :=
  for_range (D := ⟨nx, rt, fun _ _ => False, fun _ _ => False⟩) Pv h0 hs hd
theorem l_list {a : Addr} {xs : List V} (Pv : Nat → L2.St → Hp → Prop) (h0 : Pv 0 σ H) (hl : ∀ i σ H, i ≤ xs.length → Pv i σ H → SqL K H a xs) (hs : ∀ i x σ H, xs[i]? = some x → Pv i σ H → g x σ H fun σ2 H2 => tbd ⟨Pv (i + 1), rt, nx, Pv (i + 1)⟩ σ2 H2) (hd : ∀ σ H, Pv xs.length σ H → nx σ H) :
    ∃ W : Nat → Nat → L2.St → Hp → Prop, (∃ m, W 0 m σ H) ∧ ∀ i m σ H, W i m σ H → ((Itl K a).stop i H ∧ nx σ H) ∨ ((Itl K a).go i H ∧ ∃ N : L2.St → Hp → Prop, (∀ σ' H', N σ' H' → ∃ m', m' < m ∧ W (i + 1) m' σ' H') ∧ ∀ x H', (Itl K a).yld i H x H' → g x σ H' fun σ2 H2 => tbd ⟨N, rt, nx, N⟩ σ2 H2) :=
  for_list (D := ⟨nx, rt, fun _ _ => False, fun _ _ => False⟩) Pv h0 hl hs hd
theorem l_tup {a : Addr} {xs : List V} (Pv : Nat → L2.St → Hp → Prop) (h0 : Pv 0 σ H) (hl : ∀ i σ H, i ≤ xs.length → Pv i σ H → SqT K H a xs) (hs : ∀ i x σ H, xs[i]? = some x → Pv i σ H → g x σ H fun σ2 H2 => tbd ⟨Pv (i + 1), rt, nx, Pv (i + 1)⟩ σ2 H2) (hd : ∀ σ H, Pv xs.length σ H → nx σ H) :
    ∃ W : Nat → Nat → L2.St → Hp → Prop, (∃ m, W 0 m σ H) ∧ ∀ i m σ H, W i m σ H → ((Itt K a).stop i H ∧ nx σ H) ∨ ((Itt K a).go i H ∧ ∃ N : L2.St → Hp → Prop, (∀ σ' H', N σ' H' → ∃ m', m' < m ∧ W (i + 1) m' σ' H') ∧ ∀ x H', (Itt K a).yld i H x H' → g x σ H' fun σ2 H2 => tbd ⟨N, rt, nx, N⟩ σ2 H2) :=
  for_tup (D := ⟨nx, rt, fun _ _ => False, fun _ _ => False⟩) Pv h0 hl hs hd
theorem s_while (W : Nat → L2.St → Hp → Prop) (m0 : Nat) (h0 : W m0 σ H) (hs : ∀ m σ H, W m σ H → tt σ H fun b H1 => if b = true then ∃ N : L2.St → Hp → Prop, (∀ σ' H', N σ' H' → ∃ m', m' < m ∧ W m' σ' H') ∧ tbd ⟨N, rt, nx, N⟩ σ H1 else nx σ H1) : tWhile tt tbd ⟨nx, rt, bk, ct⟩ σ H :=
  ⟨W, ⟨m0, h0⟩, hs⟩
theorem w_body {W : Nat → L2.St → Hp → Prop} {m : Nat} {R : (L2.St → Hp → Prop) → Prop} (h : R fun σ' H' => ∃ m', m' < m ∧ W m' σ' H') : ∃ N : L2.St → Hp → Prop, (∀ σ' H', N σ' H' → ∃ m', m' < m ∧ W m' σ' H') ∧ R N := ⟨_, fun _ _ h => h, h⟩
theorem s_par {i j : Nat} {ta : TA} (h : ta σ H fun vs H1 => ∃ v w, vs = [v, w] ∧ nx ((σ.set i (some v)).set j (some w)) H1) : tPar i j ta ⟨nx, rt, bk, ct⟩ σ H := h
theorem e_par {v w : V} {R : V → V → Prop} (h : R v w) : ∃ v' w', [v, w] = [v', w'] ∧ R v' w' := ⟨v, w, rfl, h⟩
theorem s_par3 {i j l : Nat} {ta : TA} (h : ta σ H fun vs H1 => ∃ u v w, vs = [u, v, w] ∧ nx (((σ.set i (some u)).set j (some v)).set l (some w)) H1) : tPar3 i j l ta ⟨nx, rt, bk, ct⟩ σ H := h
theorem e_par3 {u v w : V} {R : V → V → V → Prop} (h : R u v w) : ∃ u' v' w', [u, v, w] = [u', v', w'] ∧ R u' v' w' := ⟨u, v, w, rfl, h⟩
theorem g_sub {to ti : TE} {t : TSet} {Q : L2.St → Hp → Prop} (h : to σ H fun o H1 => ti σ H1 fun i H2 => t o i v H2 fun H3 => Q σ H3) : gSub to ti t v σ H Q := h
theorem i_setL {p : Addr} {xs : List V} {k : Int} {j : Nat} {Q : Hp → Prop} (h : H p = some (.lst xs)) (e : ixN xs.length k = some j) (q : Q (upd H p (.lst (xs.set j v)))) : rSetL (.ref p) (.int k) v H Q := ⟨p, xs, k, j, rfl, rfl, h, e, q⟩
theorem s_fld {f : Str} (h : tv σ H fun y H1 => ta σ H1 fun x H2 => ∃ a C dx fs, x = .ref a ∧ H2 a = some (.ins C dx fs) ∧ Cls K C ∧ NoAttr K C f ∧ fs.length < 1000 ∧ nx σ (upd H2 a (.ins C dx (putF f y fs)))) : sFld K ta tv f ⟨nx, rt, bk, ct⟩ σ H := h
theorem e_fld {a C dx : Addr} {fs : List (Str × V)} {f : Str} {R : Addr → Addr → Addr → List (Str × V) → Prop} (h : H a = some (.ins C dx fs)) (c : Cls K C) (n : NoAttr K C f) (l : fs.length < 1000) (q : R a C dx fs) :
    ∃ a' C dx fs, V.ref a = V.ref a' ∧ H a' = some (.ins C dx fs) ∧ Cls K C ∧ NoAttr K C f ∧ fs.length < 1000 ∧ R a' C dx fs := ⟨a, C, dx, fs, rfl, h, c, n, l, q⟩
theorem i_bm {T : String} {r : V → List V → Hp → VK → Prop} {to : TE} {t : TA} (h : to σ H fun x H1 => tyV K T x H1 ∧ t σ H1 fun xs H2 => r x xs H2 Q) : tBM K T r to t σ H Q := h
theorem i_bm0 {T : String} {r : V → List V → Hp → VK → Prop} {to : TE} (h : to σ H fun x H1 => tyV K T x H1 ∧ r x [] H1 Q) : tBM0 K T r to σ H Q := h
theorem tyV_lst {p : Addr} {xs : List V} (h : H p = some (.lst xs)) : tyV K "list" (.ref p) H := .inl ⟨rfl, _, SqL.of h⟩
theorem i_append {l : Addr} {xs : List V} (h : H l = some (.lst xs)) (n : xs.length < sizeLine) (q : Q .non (upd H l (.lst (xs ++ [y])))) : rAppend (.ref l) [y] H Q := ⟨l, xs, y, rfl, rfl, h, n, q⟩
theorem i_lc {g : TG} {vs : List Nat} (h : wi σ H fun J H1 => ∀ D, H1 D = none → ∃ W : Nat → Nat → Hp → Prop, (∃ m, W 0 m (upd H1 D (.lst []))) ∧ ∀ i m H, W i m H →
  (J.stop i H ∧ Q (.ref D) H) ∨ (J.go i H ∧ ∃ Nx : Hp → Prop, (∀ H', Nx H' → ∃ m', m' < m ∧ W (i + 1) m' H') ∧ ∀ x H', J.yld i H x H' → g x (wipe σ vs) H' fun σ2 H2 => wipe σ2 vs = wipe σ vs ∧ tt σ2 H2 fun b H3 =>
    if b = true then te σ2 H3 fun y H4 => ∃ acc, H4 D = some (.lst acc) ∧ acc.length < sizeLine ∧ Nx (upd H4 D (.lst (acc ++ [y]))) else Nx H3)) : tLc wi g tt te vs σ H Q := h
end
/-! ### values of one kind compared -/
def rEqP (K : PySem.W.Frag) : R2 := rOr rEq (rEqD K)
def rNeP (K : PySem.W.Frag) : R2 := rOr rNe (rNeD K)
theorem op_eqP {X : Cx} (hu : X.A.units + 64 < cLine) : OpR X (compareOp .Eq) (rEqP X.K) := op_eq.or (op_eqD hu)
theorem op_neP {X : Cx} (hu : X.A.units + 64 < cLine) : OpR X (compareOp .NotEq) (rNeP X.K) := op_ne.or (op_neD hu)
section
variable {K : PySem.W.Frag} {H : Hp} {Q : VK} {x y : V}
theorem i_eqS (s : scal x y = true) (q : Q (.bl (decide (x = y))) H) : rEqP K x y H Q := .inl ⟨s, q⟩
theorem i_neS (s : scal x y = true) (q : Q (.bl (!decide (x = y))) H) : rNeP K x y H Q := .inl ⟨s, q⟩
theorem i_eqI {a b : Int} (q : Q (.bl (decide (a = b))) H) : rEqP K (.int a) (.int b) H Q := .inl ⟨rfl, by
  have e : decide (V.int a = V.int b) = decide (a = b) := by
    by_cases h : a = b
    · subst h; simp
    · rw [decide_eq_false h, decide_eq_false (fun z => h (V.int.inj z))]
  rw [e]
  exact q⟩
theorem i_neI {a b : Int} (q : Q (.bl (!decide (a = b))) H) : rNeP K (.int a) (.int b) H Q := .inl ⟨rfl, by
  have e : decide (V.int a = V.int b) = decide (a = b) := by
    by_cases h : a = b
    · subst h; simp
    · rw [decide_eq_false h, decide_eq_false (fun z => h (V.int.inj z))]
  rw [e]
  exact q⟩
end
/-! ### heaps: all but one object kept -/
def But (r : Addr) (H H' : Hp) : Prop := ∀ a o, a ≠ r → H a = some o → H' a = some o
theorem But.refl {r : Addr} {H : Hp} : But r H H := fun _ _ _ h => h
theorem But.trans {r : Addr} {H H1 H2 : Hp} (a : But r H H1) (b : But r H1 H2) : But r H H2 := fun x o n h => b x o n (a x o n h)
theorem But.upd {r : Addr} {H H' : Hp} {o : HO} (a : But r H H') : But r H (L2.upd H' r o) := fun x u n h => by rw [upd_ne n]; exact a x u n h
theorem But.new {r p : Addr} {H H' : Hp} {o : HO} (a : But r H H') (hp : H' p = none) : But r H (L2.upd H' p o) := fun x u n h => by
  have h1 := a x u n h
  rw [upd_ne (ne_of_none h1 hp)]
  exact h1
theorem But.of_same {r : Addr} {H H' : Hp} (s : Same H H') : But r H H' := fun x o _ h => s x o h
theorem Same.new {p : Addr} {H H' : Hp} {o : HO} (a : Same H H') (hp : H' p = none) : Same H (upd H' p o) := fun x u h => by
  have h1 := a x u h
  rw [upd_ne (ne_of_none h1 hp)]
  exact h1
theorem Same.mut {p : Addr} {H H' : Hp} {o : HO} (a : Same H H') (hp : H p = none) : Same H (upd H' p o) := fun x u h => by
  rw [upd_ne (ne_of_none h hp)]
  exact a x u h
theorem But.free {r p : Addr} {H H' : Hp} {o : HO} (a : But r H H') (hr : H r = some o) (hr' : ∃ u, H' r = some u) (hp : H' p = none) : H p = none := by
  cases e : H p with
  | none => rfl
  | some u =>
    by_cases h : p = r
    · obtain ⟨u', hu⟩ := hr'
      rw [h, hu] at hp
      cases hp
    · rw [a p u h e] at hp
      cases hp
/-! ### the law's row of draws -/
/-- the script: locked, or of the module's own objects -/
def Sc (K : PySem.W.Frag) (H : Hp) (a : Addr) (ns : List Int) : Prop := (∃ o, H a = some (.frz o (.lst (ns.map V.int)))) ∨ ∀ H', SqL K H' a (ns.map V.int)
theorem Sc.seq {K : PySem.W.Frag} {H : Hp} {a : Addr} {ns : List Int} (h : Sc K H a ns) : SqL K H a (ns.map V.int) := by
  rcases h with ⟨o, h⟩ | h
  · exact .inl (.inr ⟨o, h⟩)
  · exact h H
theorem Sc.of {K : PySem.W.Frag} {H : Hp} {a : Addr} {ns : List Int} (ho : Only H) (h : SqL K H a (ns.map V.int)) : Sc K H a ns := by
  rcases h with (h | ⟨o, h⟩) | h
  · rcases ho a with z | ⟨o, xs, z⟩
    · rw [h] at z; cases z
    · rw [h] at z; cases z
  · exact .inl ⟨o, h⟩
  · exact .inr fun H' => .inr h
/-- what stands at a may be changed, if it is not locked -/
theorem Sc.but {K : PySem.W.Frag} {H H' : Hp} {a r : Addr} {ns : List Int} {u : HO} (h : Sc K H a ns) (hr : H r = some u) (hu : ∀ o v, u ≠ .frz o v) (b : But r H H') : Sc K H' a ns := by
  rcases h with ⟨o, h⟩ | h
  · exact .inl ⟨o, b a _ (fun z => by rw [z, hr] at h; exact hu _ _ (Option.some.inj h)) h⟩
  · exact .inr h
theorem Sc.same {K : PySem.W.Frag} {H H' : Hp} {a : Addr} {ns : List Int} (h : Sc K H a ns) (s : Same H H') : Sc K H' a ns := by
  rcases h with ⟨o, h⟩ | h
  · exact .inl ⟨o, s _ _ h⟩
  · exact .inr h
def RowAt (K : PySem.W.Frag) (H : Hp) (r : Addr) : Prop := ∃ (a : Addr) (ns : List Int) (i s g : Int), H r = some (.lst [.ref a, .int i, .int s, .int g]) ∧ Sc K H a ns ∧ 0 ≤ i
theorem lst_frz {xs : List V} : ∀ o v, HO.lst xs ≠ .frz o v := fun _ _ z => nomatch z
theorem RowAt.but {K : PySem.W.Frag} {H H' : Hp} {r p : Addr} {o : HO} (h : RowAt K H r) (hp : H p = some o) (ho : ∀ q v, o ≠ .frz q v) (hn : p ≠ r) (b : But p H H') : RowAt K H' r := by
  obtain ⟨a, ns, i, s, g, h1, h2, h3⟩ := h
  exact ⟨a, ns, i, s, g, b r _ hn.symm h1, h2.but hp ho b, h3⟩
theorem RowAt.same {K : PySem.W.Frag} {H H' : Hp} {r : Addr} (h : RowAt K H r) (b : Same H H') : RowAt K H' r := by
  obtain ⟨a, ns, i, s, g, h1, h2, h3⟩ := h
  exact ⟨a, ns, i, s, g, b r _ h1, h2.same b, h3⟩
/-- where the row stands nothing new is laid -/
theorem RowAt.ne {K : PySem.W.Frag} {H : Hp} {r p : Addr} (h : RowAt K H r) (hp : H p = none) : p ≠ r := by
  obtain ⟨_, _, _, _, _, h1, _⟩ := h
  exact fun z => by rw [z, h1] at hp; cases hp
theorem RowAt.lst {K : PySem.W.Frag} {H : Hp} {r : Addr} (h : RowAt K H r) : ∃ xs, H r = some (.lst xs) := by
  obtain ⟨_, _, _, _, _, h1, _⟩ := h
  exact ⟨_, h1⟩
/-- _law_taken(row, many) -/
def spTaken (K : PySem.W.Frag) : Sp := Sp2 fun a b H Q _ => ∃ (r : Addr) (n : Int), a = .ref r ∧ b = .int n ∧ 0 < n ∧ n < 2 ^ 64 ∧ RowAt K H r ∧ ∀ (d : Int) (H' : Hp), 0 ≤ d → d < n → RowAt K H' r → But r H H' → Q (.int d) H'
theorem i_spTaken {K : PySem.W.Frag} {r : Addr} {n : Int} {H : Hp} {Q : VK} {E : XK} (hr : RowAt K H r) (h0 : 0 < n) (h1 : n < 2 ^ 64) (q : ∀ (d : Int) (H' : Hp), 0 ≤ d → d < n → RowAt K H' r → But r H H' → Q (.int d) H') : spTaken K ([.ref r, .int n] ++ []) H Q E := i_sp2 ⟨r, n, rfl, rfl, h0, h1, hr, q⟩
theorem divW {i j : Int} (h : 0 < j) (h1 : j < 2 ^ 64) : CDivW i j := wide_div h (b := 64) (by omega) (by decide) (by decide)
end G

set_option Elab.async false
set_option linter.all false
set_option maxRecDepth 100000
set_option maxHeartbeats 4000000
namespace G
open PySem PySem.Spec L2
/-! ### built-in calls, their readings by name -/
def rInt1 : List V → Hp → VK → Prop := fun xs H Q => (∃ i, xs = [.int i] ∧ Q (.int i) H) ∨ ∃ k, xs = [.bl k] ∧ Q (.int (if k then 1 else 0)) H
def rLen (K : PySem.W.Frag) : List V → Hp → VK → Prop := fun xs H Q => ∃ x n, xs = [x] ∧ LenV K x H n ∧ Q (.int n) H
def rMin2 : List V → Hp → VK → Prop := fun xs H Q => ∃ i j, xs = [.int i, .int j] ∧ Q (.int (if j < i then j else i)) H
def rMax2 : List V → Hp → VK → Prop := fun xs H Q => ∃ i j, xs = [.int i, .int j] ∧ Q (.int (if j > i then j else i)) H
def rAbs : List V → Hp → VK → Prop := fun xs H Q => ∃ i, xs = [.int i] ∧ Q (.int (if i < 0 then -i else i)) H
def rListOf (K : PySem.W.Frag) : List V → Hp → VK → Prop := fun xs H Q => ∃ p ys, xs = [.ref p] ∧ (SqL K H p ys ∨ SqT K H p ys) ∧ ∀ l, H l = none → Q (.ref l) (upd H l (.lst ys))
def rTupleOf (K : PySem.W.Frag) : List V → Hp → VK → Prop := fun xs H Q => ∃ p ys, xs = [.ref p] ∧ ((SqL K H p ys ∧ ∀ l, H l = none → Q (.ref l) (upd H l (.tup ys))) ∨ (SqT K H p ys ∧ Q (.ref p) H))
section
variable {X : Cx}
theorem c_int1 : CallR X (.type "int") rInt1 := call_int1
theorem c_len : CallR X (.builtin "len") (rLen X.K) := call_len
theorem c_min2 (hc : X.calm = true) : CallR X (.builtin "min") rMin2 := call_min2 hc
theorem c_max2 (hc : X.calm = true) : CallR X (.builtin "max") rMax2 := call_max2 hc
theorem c_abs : CallR X (.builtin "abs") rAbs := call_abs
theorem c_listOf : CallR X (.type "list") (rListOf X.K) := call_list_of
theorem c_tupleOf : CallR X (.type "tuple") (rTupleOf X.K) := call_tuple_of
end
section
variable {σ : L2.St} {H : Hp} {Q : VK} {v x y z : V} {K : PySem.W.Frag}
theorem i_int1 {a : Int} (q : Q (.int a) H) : rInt1 [.int a] H Q := .inl ⟨a, rfl, q⟩
theorem i_int1b {b : Bool} (q : Q (.int (if b then 1 else 0)) H) : rInt1 [.bl b] H Q := .inr ⟨b, rfl, q⟩
theorem i_lenL {p : Addr} {xs : List V} (h : SqL K H p xs) (q : Q (.int (xs.length : Int)) H) : rLen K [.ref p] H Q := ⟨_, _, rfl, .inl ⟨_, h, rfl⟩, q⟩
theorem i_lenT {p : Addr} {xs : List V} (h : SqT K H p xs) (q : Q (.int (xs.length : Int)) H) : rLen K [.ref p] H Q := ⟨_, _, rfl, .inr ⟨_, h, rfl⟩, q⟩
theorem i_lenS {s : Str} (h : s.length ≤ sizeLine) (q : Q (.int (s.length : Int)) H) : rLen K [.str s] H Q := ⟨_, _, rfl, ⟨h, rfl⟩, q⟩
theorem i_min2 {a b : Int} (q : Q (.int (if b < a then b else a)) H) : rMin2 [.int a, .int b] H Q := ⟨a, b, rfl, q⟩
theorem i_max2 {a b : Int} (q : Q (.int (if b > a then b else a)) H) : rMax2 [.int a, .int b] H Q := ⟨a, b, rfl, q⟩
theorem i_abs {a : Int} (q : Q (.int (if a < 0 then -a else a)) H) : rAbs [.int a] H Q := ⟨a, rfl, q⟩
theorem i_listL {p : Addr} {ys : List V} (h : SqL K H p ys) (q : ∀ l, H l = none → Q (.ref l) (upd H l (.lst ys))) : rListOf K [.ref p] H Q := ⟨p, ys, rfl, .inl h, q⟩
theorem i_listT {p : Addr} {ys : List V} (h : SqT K H p ys) (q : ∀ l, H l = none → Q (.ref l) (upd H l (.lst ys))) : rListOf K [.ref p] H Q := ⟨p, ys, rfl, .inr h, q⟩
theorem i_tupleL {p : Addr} {ys : List V} (h : SqL K H p ys) (q : ∀ l, H l = none → Q (.ref l) (upd H l (.tup ys))) : rTupleOf K [.ref p] H Q := ⟨p, ys, rfl, .inl ⟨h, q⟩⟩
theorem i_tupleT {p : Addr} {ys : List V} (h : SqT K H p ys) (q : Q (.ref p) H) : rTupleOf K [.ref p] H Q := ⟨p, ys, rfl, .inr ⟨h, q⟩⟩
end
end G

set_option Elab.async false
set_option linter.all false
set_option maxRecDepth 100000
set_option maxHeartbeats 4000000
namespace G
open PySem PySem.Spec L2 He
/-! ### the facts of the head: HeadHook4's, and defs at any address (getters) -/
abbrev AlG : Type := AlX × List FnW
def obsG' (fa : List Fa) (fn : List DefD) (ts : List Tab) (tf : List Defn) (ex : PySem.W.Frag → Bool) (fg : List He5.DefA) (g : Addr → Option Obj) (n : Nat) : AlG :=
  ((obsT fa fn ts (frT g (asD g n)), (ex (frT g (asD g n)) && fg.all fun d => d.ok (frT g (asD g n))) && tabsB g tf (frT g (asD g n))), fg.map fun d => He5.fnA (frT g (asD g n)) (d.at_ (frT g (asD g n))))
def valG (fn : List DefD) (ts : List Tab) (fg : List He5.DefA) (w : World) : AlG := (valX fn ts w, fg.map He5.DefA.val)
structure SaysG (fa : List Fa) (fn : List DefD) (ts : List Tab) (tf : List Defn) (ex : PySem.W.Frag → Bool) (fg : List He5.DefA) (w : World) (h : Heap) (K : PySem.W.Frag) : Prop where
  x : SaysX fa fn ts tf ex w h K
  gok : ∀ d ∈ fg, d.ok K = true
  g : fg.map (fun d => He5.fnA K (d.at_ K)) = fg.map He5.DefA.val
theorem saysG_of {n : Nat} {fa : List Fa} {fn : List DefD} {ts : List Tab} {tf : List Defn} {ex : PySem.W.Frag → Bool} {fg : List He5.DefA} {w : World} {h : Heap} (e : obsG' fa fn ts tf ex fg h.get? n = valG fn ts fg w) : SaysG fa fn ts tf ex fg w h (frT h.get? (asD h.get? n)) := by
  have e1 : obsX n fa fn ts tf (fun K => ex K && fg.all fun d => d.ok K) h.get? = valX fn ts w := congrArg (fun z : AlG => z.1) e
  have e2 : fg.map (fun d => He5.fnA (frT h.get? (asD h.get? n)) (d.at_ (frT h.get? (asD h.get? n)))) = fg.map He5.DefA.val := congrArg (fun z : AlG => z.2) e
  have s := saysX_of e1
  obtain ⟨m1, m2⟩ := ba s.more
  exact ⟨⟨s.t, m1, s.hd, s.out, s.empty⟩, fun d hd => List.all_eq_true.mp m2 d hd, e2⟩
def hookG (n : Nat) (fa : List Fa) (fn : List DefD) (ts : List Tab) (tf : List Defn) (ex : PySem.W.Frag → Bool) (fg : List He5.DefA) : PySem.W.Hook where
  α := AlG
  obs := fun s => obsG' fa fn ts tf ex fg s.heap.get? n
  val := fun w => valG fn ts fg w
  says := fun w h => ∃ K : PySem.W.Frag, K.In h ∧ SaysG fa fn ts tf ex fg w h K
  of := fun _ _ e => ⟨_, frT_in, saysG_of e⟩
  keeps := fun _ _ _ ⟨K, hK, c⟩ k => ⟨K, PySem.W.Frag.In.keeps hK k, ⟨⟨c.x.t, c.x.more, c.x.hd, c.x.out, fun p hp => k _ _ (c.x.empty p hp)⟩, c.gok, c.g⟩⟩
def obH (n : Nat) (fa : List Fa) (fn : List DefD) (ts : List Tab) (tf : List Defn) (ex : PySem.W.Frag → Bool) (fg : List He5.DefA) (s : PySem.W.SharedT) : AlG := obsG' fa fn ts tf ex fg (HandSHeadRun.getT s) n
theorem obH_eq {n : Nat} {fa : List Fa} {fn : List DefD} {ts : List Tab} {tf : List Defn} {ex : PySem.W.Frag → Bool} {fg : List He5.DefA} (s : PySem.W.SharedT) : obH n fa fn ts tf ex fg s = (hookG n fa fn ts tf ex fg).obs s.abs := by
  have e : HandSHeadRun.getT s = s.abs.heap.get? := funext (HandSHeadRun.getT_eq s)
  unfold obH
  rw [e] <;> rfl
section
variable {fa : List Fa} {fn : List DefD} {ts : List Tab} {tf : List Defn} {ex : PySem.W.Frag → Bool} {fg : List He5.DefA} {w : World} {h : Heap} {K : PySem.W.Frag}
theorem SaysG.fact (c : SaysG fa fn ts tf ex fg w h K) (i : Nat) {f : Fa} (hi : fa[i]? = some f := by rfl) : f.ok K = true := c.x.t.d.fact i hi
theorem SaysG.def_ (c : SaysG fa fn ts tf ex fg w h K) (i : Nat) {d : DefD} (hi : fn[i]? = some d := by rfl) : ∃ fd, FunD K d.name d.qual d.params d.body d.scope (d.dvs K) (d.kws K) (fAd K d.at_) fd := c.x.t.d.def_ i hi
theorem SaysG.get (c : SaysG fa fn ts tf ex fg w h K) (i : Nat) {d : He5.DefA} (hi : fg[i]? = some d := by rfl) : ∃ fd, FunD K d.name d.qual d.params d.body d.scope (d.dvs K) (d.kws K) (d.at_ K) fd := by
  have e := c.g
  have e2 : (fg.map fun d => He5.fnA K (d.at_ K))[i]? = (fg.map He5.DefA.val)[i]? := by rw [e]
  rw [List.getElem?_map, List.getElem?_map, hi] at e2
  exact He5.DefA.funD (Option.some.inj e2) (c.gok d (List.mem_of_getElem? hi))
end
/-! ### properties -/
def propGet (K : PySem.W.Frag) (C : Addr) (f : Str) : Addr := match PySem.W.recIn K (ma K C f) "property" with
  | some (.ref g :: _) => g
  | _ => 0
def propB (K : PySem.W.Frag) (C : Addr) (f : Str) : Bool :=
  eqO (PySem.W.findIn K (.ref C) f) (some (some (.ref (ma K C f)))) && (eqO (PySem.W.specialIn K (.ref (ma K C f)) "__get__") (some (some (.builtin "property.__get__"))) && (decide (PySem.W.takesIn K (.ref (ma K C f)) = some true) && (match PySem.W.recIn K (ma K C f) "property" with
    | some (.ref _ :: _) => true
    | _ => false)))
theorem propB_ok {K : PySem.W.Frag} {C : Addr} {f : Str} (h : propB K C f = true) : PropOf K C f (ma K C f) (propGet K C f) := by
  obtain ⟨h1, h2⟩ := ba h
  obtain ⟨h2, h3⟩ := ba h2
  obtain ⟨h3, h4⟩ := ba h3
  refine ⟨eqO_ok h1, eqO_ok h2, of_decide_eq_true h3, ?_⟩
  unfold propGet
  split at h4
  · rename_i g r e
    rw [e]
    exact ⟨r, rfl⟩
  · cases h4
/-! ### what the module's names hold -/
theorem gl_int {K : PySem.W.Frag} {h : Heap} {mg : Str → Option Value} (X : K.In h) (G : h.Ns mainGlobals mg) {x : Str} {i : Int} (c : (Fa.int x i).ok K = true) : GlV mg x (.int i) := by
  obtain ⟨t, e⟩ := int_ok X G c
  exact ⟨_, e, t, rfl⟩
theorem gl_str {K : PySem.W.Frag} {h : Heap} {mg : Str → Option Value} (X : K.In h) (G : h.Ns mainGlobals mg) {x z : Str} (c : (Fa.str x z).ok K = true) : GlV mg x (.str z) := by
  obtain ⟨t, e⟩ := str_ok X G c
  exact ⟨_, e, t, rfl⟩
theorem gl_ref {K : PySem.W.Frag} {h : Heap} {mg : Str → Option Value} (X : K.In h) (G : h.Ns mainGlobals mg) {x : Str} (c : (Fa.glo x).ok K = true) : GlV mg x (.ref (ga K x)) := ⟨_, glo_ok X G c, rfl⟩
/-! ### the end -/
theorem walk_G {l : PySem.W.OpenLaw} {n k : Nat} {q : Program} {loose : List Str} {XP : (Str → Option Value) → Heap → Prop} {YP : World → Heap → Prop} {d : DefRec} {x : Str}
    (hn : l.most = some n) (hn2 : n ≤ sizeLine) (hdf : d.params.defaults = []) (hr : Room k callerA)
    (F : ∀ (w : World) (mg : Str → Option Value) (fa : Addr) (h : Heap), YP w h → h.Ns mainGlobals mg → mg d.name = some (.ref fa) →
      ∃ (K : PySem.W.Frag) (fd : FuncData) (sp : Sp), K.In h ∧ (∀ (s : Shared) (u : Value), BindsTo s fd ⟨[u], []⟩ [(x, u)]) ∧
        (∀ (H : Hp) (a : Addr) (ns : List Int), ns.length ≤ n → Only H → SqL K H a (ns.map V.int) → sp [.ref a] H (fun v _ => v = .bl true) fun _ _ _ => False) ∧
        ∀ base : Heap, K.In base → base.Ns mainGlobals mg → FnOk l.prog w K mg base (L2.CX l.prog w) k fa fd [x] sp) :
    PySem.W.WalkO q loose XP YP l.row.toRowW d [] (fun f vs => PySem.call f vs) := by
  refine Att.attach_call hn hdf fun w s₀ s₁ mg mb fa o pm cd doc a vs ns G Y ho hd hcd hmg hobj hints hlen hg => ?_
  obtain ⟨K, fd, sp, KX, hb, hsp, hF⟩ := F w mg fa _ Y G.T.g hmg
  exact law_call KX G.T.g G.T.b G.T.builtins G.T.nolimit hg hobj hints (Nat.le_trans hlen hn2) hr hF hb (fun H hO hS => hsp H a ns hlen hO hS) fun H e s' z => by
    obtain ⟨_, _, _, _, _, _, _, _, _, _, _, _, z⟩ := z
    exact z.elim
end G

set_option Elab.async false
set_option linter.all false
set_option maxRecDepth 100000
set_option maxHeartbeats 4000000
/-! Values as trees; the abstract store; what a heap has of them. -/
namespace P
open PySem PySem.Spec L2 G
inductive PV where
  | non | bl (b : Bool) | int (i : Int) | str (s : Str)
  | tup (xs : List PV) | lst (xs : List PV) | frl (xs : List PV) | dct (ks : List Key) (vs : List PV)
  | ins (c : Str) (ns : List Str) (vs : List PV)
  | ty (n : String) | cls (c : Str)
/-- what a name holds: a value, or a thing of the store -/
inductive EV where
  | v (p : PV) | c (k : Nat)
inductive Cell where
  | dead | lst (xs : List PV) | dct (ks : List Key) (vs : List PV) | ins (c : Str) (ns : List Str) (vs : List EV)
abbrev Env := List (Option EV)
abbrev Sto := List Cell
/-- the end of an expression -/
inductive Ro (α : Type) where
  | ok (a : α) (μ : Sto) | exc (c : Str) (ns : List Str) (vs : List PV) (μ : Sto) | no
inductive So where
  | nx (ρ : Env) (μ : Sto) | rt (r : EV) (μ : Sto) | bk (ρ : Env) (μ : Sto) | ct (ρ : Env) (μ : Sto) | exc (c : Str) (ns : List Str) (vs : List PV) (μ : Sto) | no
def Ro.bind {α β : Type} (m : Ro α) (g : α → Sto → Ro β) : Ro β := match m with
  | .ok a μ => g a μ
  | .exc c ns vs μ => .exc c ns vs μ
  | .no => .no
def Ro.stm {α : Type} (m : Ro α) (g : α → Sto → So) : So := match m with
  | .ok a μ => g a μ
  | .exc c ns vs μ => .exc c ns vs μ
  | .no => .no
@[simp] theorem bind_ok {α β : Type} {a : α} {μ : Sto} {g : α → Sto → Ro β} : (Ro.ok a μ).bind g = g a μ := rfl
@[simp] theorem stm_ok {α : Type} {a : α} {μ : Sto} {g : α → Sto → So} : (Ro.ok a μ).stm g = g a μ := rfl

/-! ### a value stands in the heap -/
mutual
inductive Rep (K : PySem.W.Frag) (CT : Str → Addr) (H : Hp) : V → PV → Prop
  | non : Rep K CT H .non .non
  | bl (b : Bool) : Rep K CT H (.bl b) (.bl b)
  | int (i : Int) : Rep K CT H (.int i) (.int i)
  | str (s : Str) : Rep K CT H (.str s) (.str s)
  | ty (n : String) : Rep K CT H (.ty n) (.ty n)
  | cls (c : Str) : Rep K CT H (.ref (CT c)) (.cls c)
  | tup {a vs xs} : SqT K H a vs → Reps K CT H vs xs → Rep K CT H (.ref a) (.tup xs)
  | lst {a vs xs} : H a = some (.lst vs) → Reps K CT H vs xs → Rep K CT H (.ref a) (.lst xs)
  | frl {a vs xs} : SqL K H a vs → Reps K CT H vs xs → Rep K CT H (.ref a) (.frl xs)
  | dct {a ks vs xs} : H a = some (.dK (ks.zip vs)) → ks.length = xs.length → Reps K CT H vs xs → Rep K CT H (.ref a) (.dct ks xs)
  | ins {a dx c ns vs xs} : H a = some (.ins (CT c) dx (ns.zip vs)) → ns.length = xs.length → Reps K CT H vs xs → Rep K CT H (.ref a) (.ins c ns xs)
inductive Reps (K : PySem.W.Frag) (CT : Str → Addr) (H : Hp) : List V → List PV → Prop
  | nil : Reps K CT H [] []
  | cons {v p vs ps} : Rep K CT H v p → Reps K CT H vs ps → Reps K CT H (v :: vs) (p :: ps)
end
section
variable {K : PySem.W.Frag} {CT : Str → Addr}
theorem sqT_same {H H' : Hp} (s : Same H H') {a : Addr} {xs : List V} (h : SqT K H a xs) : SqT K H' a xs := by
  rcases h with (h | ⟨o, h⟩) | h
  · exact .inl (.inl (s _ _ h))
  · exact .inl (.inr ⟨o, s _ _ h⟩)
  · exact .inr h
theorem Rep.same {H H' : Hp} (s : Same H H') {v : V} {p : PV} (h : Rep K CT H v p) : Rep K CT H' v p :=
  Rep.rec (motive_1 := fun v p _ => Rep K CT H' v p) (motive_2 := fun vs ps _ => Reps K CT H' vs ps)
    .non .bl .int .str .ty .cls
    (fun h _ ih => .tup (sqT_same s h) ih) (fun h _ ih => .lst (s _ _ h) ih) (fun h _ ih => .frl (s.seq h) ih)
    (fun h l _ ih => .dct (s _ _ h) l ih) (fun h l _ ih => .ins (s _ _ h) l ih)
    .nil (fun _ _ i1 i2 => .cons i1 i2) h
theorem Reps.same {H H' : Hp} (s : Same H H') : ∀ {vs : List V} {ps : List PV}, Reps K CT H vs ps → Reps K CT H' vs ps
  | _, _, .nil => .nil
  | _, _, .cons h t => .cons (h.same s) (t.same s)
theorem Reps.length {H : Hp} : ∀ {vs : List V} {ps : List PV}, Reps K CT H vs ps → vs.length = ps.length
  | _, _, .nil => rfl
  | _, _, .cons _ t => by rw [List.length_cons, List.length_cons, t.length]
theorem Reps.get {H : Hp} : ∀ {vs : List V} {ps : List PV} {i : Nat} {p : PV}, Reps K CT H vs ps → ps[i]? = some p → ∃ v, vs[i]? = some v ∧ Rep K CT H v p
  | _, _, _, _, .nil, e => by simp at e
  | _, _, 0, _, .cons r _, e => by simp at e; subst e; exact ⟨_, rfl, r⟩
  | _, _, i + 1, p, .cons _ t, e => by
    obtain ⟨v, h1, h2⟩ := Reps.get (i := i) (p := p) t (by simpa using e)
    exact ⟨v, by simpa using h1, h2⟩
theorem Reps.append {H : Hp} : ∀ {vs ws : List V} {ps qs : List PV}, Reps K CT H vs ps → Reps K CT H ws qs → Reps K CT H (vs ++ ws) (ps ++ qs)
  | _, _, _, _, .nil, s => s
  | _, _, _, _, .cons r t, s => .cons r (t.append s)
theorem Reps.set {H : Hp} {v : V} {p : PV} (r : Rep K CT H v p) : ∀ {vs : List V} {ps : List PV} (i : Nat), Reps K CT H vs ps → Reps K CT H (vs.set i v) (ps.set i p)
  | _, _, _, .nil => .nil
  | _, _, 0, .cons _ t => .cons r t
  | _, _, i + 1, .cons q t => .cons q (Reps.set r i t)
theorem Reps.take {H : Hp} : ∀ {vs : List V} {ps : List PV} (n : Nat), Reps K CT H vs ps → Reps K CT H (vs.take n) (ps.take n)
  | _, _, 0, _ => .nil
  | _, _, _ + 1, .nil => .nil
  | _, _, n + 1, .cons r t => .cons r (t.take n)
theorem Reps.drop {H : Hp} : ∀ {vs : List V} {ps : List PV} (n : Nat), Reps K CT H vs ps → Reps K CT H (vs.drop n) (ps.drop n)
  | _, _, 0, r => r
  | _, _, _ + 1, .nil => .nil
  | _, _, n + 1, .cons _ t => t.drop n
theorem Reps.reverse {H : Hp} : ∀ {vs : List V} {ps : List PV}, Reps K CT H vs ps → Reps K CT H vs.reverse ps.reverse
  | _, _, .nil => .nil
  | _, _, .cons r t => by rw [List.reverse_cons, List.reverse_cons]; exact t.reverse.append (.cons r .nil)
theorem Reps.ints {H : Hp} : ∀ (ns : List Int), Reps K CT H (ns.map V.int) (ns.map PV.int)
  | [] => .nil
  | _ :: r => .cons (.int _) (Reps.ints r)
end

/-! ### worlds -/
structure Wd where
  α : List Addr
  Hs : Hp
  H : Hp
structure Ext (w w' : Wd) : Prop where
  s : Same w.Hs w'.Hs
  al : w.α <+: w'.α
  fr : ∀ a o, w.H a = some o → a ∉ w.α → w'.H a = some o
  na : ∀ a, a ∈ w'.α → a ∈ w.α ∨ w.H a = none
  ns : ∀ a o, w'.Hs a = some o → w.Hs a = some o ∨ w.H a = none ∨ a ∈ w.α
  nd : ∀ a, w'.H a = none → w.H a = none
theorem Ext.refl {w : Wd} : Ext w w := ⟨fun _ _ h => h, List.prefix_rfl, fun _ _ h _ => h, fun _ h => .inl h, fun _ _ h => .inl h, fun _ h => h⟩
theorem Ext.trans {w w1 w2 : Wd} (a : Ext w w1) (b : Ext w1 w2) : Ext w w2 where
  s := fun x o h => b.s x o (a.s x o h)
  al := a.al.trans b.al
  fr := fun x o h n => b.fr x o (a.fr x o h n) fun m => (a.na x m).elim n fun z => by rw [h] at z; cases z
  na := fun x m => (b.na x m).elim (a.na x) fun z => .inr (a.nd x z)
  ns := fun x o h => (b.ns x o h).elim (a.ns x o) fun z => z.elim (fun z => .inr (.inl (a.nd x z))) fun z => (a.na x z).elim (fun z => .inr (.inr z)) fun z => .inr (.inl z)
  nd := fun x h => a.nd x (b.nd x h)
section
variable (K : PySem.W.Frag) (CT : Str → Addr)
inductive EVRep (w : Wd) : V → EV → Prop
  | v {v p} : Rep K CT w.Hs v p → EVRep w v (.v p)
  | c {k a} : w.α[k]? = some a → EVRep w (.ref a) (.c k)
inductive EVReps (w : Wd) : List V → List EV → Prop
  | nil : EVReps w [] []
  | cons {v p vs ps} : EVRep K CT w v p → EVReps w vs ps → EVReps w (v :: vs) (p :: ps)
def CellOk (w : Wd) (a : Addr) : Cell → Prop
  | .dead => True
  | .lst xs => w.Hs a = none ∧ ∃ vs, w.H a = some (.lst vs) ∧ Reps K CT w.Hs vs xs
  | .dct ks xs => w.Hs a = none ∧ ∃ vs, w.H a = some (.dK (ks.zip vs)) ∧ ks.length = xs.length ∧ Reps K CT w.Hs vs xs
  | .ins c ns xs => w.Hs a = none ∧ ∃ dx vs, w.H a = some (.ins (CT c) dx (ns.zip vs)) ∧ ns.length = xs.length ∧ EVReps K CT w vs xs
structure RelH (w : Wd) (μ : Sto) : Prop where
  s : Same w.Hs w.H
  len : w.α.length = μ.length
  nd : w.α.Nodup
  cell : ∀ (k : Nat) (x : Cell) (a : Addr), μ[k]? = some x → w.α[k]? = some a → CellOk K CT w a x
  al : ∀ a, a ∈ w.α → w.H a ≠ none
structure EnvR (w : Wd) (σ : L2.St) (ρ : Env) : Prop where
  len : σ.length = ρ.length
  get : ∀ (i : Nat) (e : EV), ρ[i]? = some (some e) → ∃ v, σ[i]? = some (some v) ∧ EVRep K CT w v e
end
section
variable {K : PySem.W.Frag} {CT : Str → Addr}
theorem prefix_get {α : Type} {l l' : List α} (h : l <+: l') {k : Nat} {a : α} (e : l[k]? = some a) : l'[k]? = some a := by
  obtain ⟨t, rfl⟩ := h
  rw [List.getElem?_append_left ((List.getElem?_eq_some_iff.mp e).1)]
  exact e
theorem EVRep.ext {w w' : Wd} (x : Ext w w') {v : V} {e : EV} (h : EVRep K CT w v e) : EVRep K CT w' v e := by
  cases h with
  | v h => exact .v (h.same x.s)
  | c h => exact .c (prefix_get x.al h)
theorem EVReps.ext {w w' : Wd} (x : Ext w w') : ∀ {vs : List V} {es : List EV}, EVReps K CT w vs es → EVReps K CT w' vs es
  | _, _, .nil => .nil
  | _, _, .cons h t => .cons (h.ext x) (t.ext x)
theorem EVReps.length {w : Wd} : ∀ {vs : List V} {es : List EV}, EVReps K CT w vs es → vs.length = es.length
  | _, _, .nil => rfl
  | _, _, .cons _ t => by rw [List.length_cons, List.length_cons, t.length]
theorem EVReps.get {w : Wd} : ∀ {vs : List V} {ps : List EV} {i : Nat} {p : EV}, EVReps K CT w vs ps → ps[i]? = some p → ∃ v, vs[i]? = some v ∧ EVRep K CT w v p
  | _, _, _, _, .nil, e => by simp at e
  | _, _, 0, _, .cons r _, e => by simp at e; subst e; exact ⟨_, rfl, r⟩
  | _, _, i + 1, p, .cons _ t, e => by
    obtain ⟨v, h1, h2⟩ := EVReps.get (i := i) (p := p) t (by simpa using e)
    exact ⟨v, by simpa using h1, h2⟩
theorem EVReps.append {w : Wd} : ∀ {vs ws : List V} {ps qs : List EV}, EVReps K CT w vs ps → EVReps K CT w ws qs → EVReps K CT w (vs ++ ws) (ps ++ qs)
  | _, _, _, _, .nil, s => s
  | _, _, _, _, .cons r t, s => .cons r (t.append s)
theorem EVReps.of {w : Wd} : ∀ {vs : List V} {ps : List PV}, Reps K CT w.Hs vs ps → EVReps K CT w vs (ps.map EV.v)
  | _, _, .nil => .nil
  | _, _, .cons r t => .cons (.v r) (EVReps.of t)
theorem EnvR.ext {w w' : Wd} (x : Ext w w') {σ : L2.St} {ρ : Env} (h : EnvR K CT w σ ρ) : EnvR K CT w' σ ρ :=
  ⟨h.len, fun i e q => by obtain ⟨v, h1, h2⟩ := h.get i e q; exact ⟨v, h1, h2.ext x⟩⟩
theorem EnvR.set {w : Wd} {σ : L2.St} {ρ : Env} (h : EnvR K CT w σ ρ) (i : Nat) {v : V} {e : EV} (r : EVRep K CT w v e) : EnvR K CT w (σ.set i (some v)) (ρ.set i (some e)) := by
  refine ⟨by rw [List.length_set, List.length_set, h.len], fun j e' q => ?_⟩
  rw [List.getElem?_set] at q ⊢
  by_cases hij : i = j
  · subst hij
    by_cases hl : i < ρ.length
    · rw [if_pos rfl, if_pos hl] at q
      cases q
      rw [if_pos rfl, if_pos (by rw [h.len]; exact hl)]
      exact ⟨v, rfl, r⟩
    · rw [if_pos rfl, if_neg hl] at q
      cases q
  · rw [if_neg hij] at q ⊢
    exact h.get j e' q
/-- a thing new in the heap, frozen -/
theorem Ext.new {w : Wd} {a : Addr} {o : HO} {μ : Sto} (r : RelH K CT w μ) (ha : w.H a = none) : Ext w ⟨w.α, upd w.Hs a o, upd w.H a o⟩ where
  s := fun b u h => by show upd w.Hs a o b = _; rw [upd_ne (ne_of_none (r.s b u h) ha)]; exact h
  al := List.prefix_rfl
  fr := fun b u h _ => by show upd w.H a o b = _; rw [upd_ne (ne_of_none h ha)]; exact h
  na := fun _ h => .inl h
  ns := fun b u h => by
    by_cases e : b = a
    · subst e; exact .inr (.inl ha)
    · rw [show (⟨w.α, upd w.Hs a o, upd w.H a o⟩ : Wd).Hs b = w.Hs b from upd_ne e] at h
      exact .inl h
  nd := fun b h => by
    by_cases e : b = a
    · subst e; exact ha
    · rw [show (⟨w.α, upd w.Hs a o, upd w.H a o⟩ : Wd).H b = w.H b from upd_ne e] at h
      exact h
theorem RelH.free {w : Wd} {μ : Sto} (r : RelH K CT w μ) {a : Addr} (ha : w.H a = none) : w.Hs a = none := by
  cases e : w.Hs a with
  | none => rfl
  | some o => rw [r.s a o e] at ha; cases ha
theorem RelH.notin {w : Wd} {μ : Sto} (r : RelH K CT w μ) {a : Addr} (ha : w.H a = none) : a ∉ w.α := fun h => r.al a h ha
/-- cells are kept where their own things are -/
theorem CellOk.ext {w w' : Wd} {a : Addr} {x : Cell} (e : Ext w w') (h1 : w.Hs a = none → w'.Hs a = none) (h2 : ∀ o, w.H a = some o → w'.H a = some o) (h : CellOk K CT w a x) : CellOk K CT w' a x := by
  cases x with
  | dead => trivial
  | lst xs => obtain ⟨n, vs, p, q⟩ := h; exact ⟨h1 n, vs, h2 _ p, q.same e.s⟩
  | dct ks xs => obtain ⟨n, vs, p, l, q⟩ := h; exact ⟨h1 n, vs, h2 _ p, l, q.same e.s⟩
  | ins c ns xs => obtain ⟨n, dx, vs, p, l, q⟩ := h; exact ⟨h1 n, dx, vs, h2 _ p, l, q.ext e⟩
theorem RelH.new {w : Wd} {a : Addr} {o : HO} {μ : Sto} (r : RelH K CT w μ) (ha : w.H a = none) : RelH K CT ⟨w.α, upd w.Hs a o, upd w.H a o⟩ μ where
  s := fun b u h => by
    show upd w.H a o b = _
    by_cases e : b = a
    · subst e; rw [upd_same]; rw [show (⟨w.α, upd w.Hs b o, upd w.H b o⟩ : Wd).Hs b = some o from upd_same] at h; exact h
    · rw [upd_ne e]; rw [show (⟨w.α, upd w.Hs a o, upd w.H a o⟩ : Wd).Hs b = w.Hs b from upd_ne e] at h; exact r.s b u h
  len := r.len
  nd := r.nd
  cell := fun k x b h1 h2 => by
    have ne : b ≠ a := fun z => r.notin ha (by rw [← z]; exact List.mem_of_getElem? h2)
    exact (r.cell k x b h1 h2).ext (Ext.new r ha) (fun h => by show upd w.Hs a o b = none; rw [upd_ne ne]; exact h) fun u h => by show upd w.H a o b = _; rw [upd_ne ne]; exact h
  al := fun b h => by
    show upd w.H a o b ≠ none
    by_cases e : b = a
    · subst e; rw [upd_same]; exact fun z => nomatch z
    · rw [upd_ne e]; exact r.al b h
/-- a thing new in the heap and in the store -/
theorem Ext.cell {w : Wd} {a : Addr} {o : HO} {μ : Sto} (r : RelH K CT w μ) (ha : w.H a = none) : Ext w ⟨w.α ++ [a], w.Hs, upd w.H a o⟩ where
  s := fun _ _ h => h
  al := List.prefix_append _ _
  fr := fun b u h _ => by show upd w.H a o b = _; rw [upd_ne (ne_of_none h ha)]; exact h
  na := fun b h => (List.mem_append.mp h).elim .inl fun z => .inr (by rw [List.mem_singleton.mp z]; exact ha)
  ns := fun _ _ h => .inl h
  nd := fun b h => by
    by_cases e : b = a
    · subst e; exact ha
    · rw [show (⟨w.α ++ [a], w.Hs, upd w.H a o⟩ : Wd).H b = w.H b from upd_ne e] at h
      exact h
theorem RelH.addCell {w : Wd} {a : Addr} {o : HO} {μ : Sto} {x : Cell} (r : RelH K CT w μ) (ha : w.H a = none) (hx : CellOk K CT ⟨w.α ++ [a], w.Hs, upd w.H a o⟩ a x) : RelH K CT ⟨w.α ++ [a], w.Hs, upd w.H a o⟩ (μ ++ [x]) where
  s := fun b u h => by show upd w.H a o b = _; rw [upd_ne (ne_of_none (r.s b u h) ha)]; exact r.s b u h
  len := by show (w.α ++ [a]).length = _; rw [List.length_append, List.length_append, r.len]; rfl
  nd := by
    show (w.α ++ [a]).Nodup
    rw [List.nodup_append]
    exact ⟨r.nd, by simp, fun b hb c hc => by rw [List.mem_singleton.mp hc]; exact fun z => r.notin ha (by rw [← z]; exact hb)⟩
  cell := fun k y b h1 h2 => by
    by_cases hk : k < μ.length
    · rw [List.getElem?_append_left hk] at h1
      rw [show (⟨w.α ++ [a], w.Hs, upd w.H a o⟩ : Wd).α[k]? = w.α[k]? from List.getElem?_append_left (by rw [r.len]; exact hk)] at h2
      have ne : b ≠ a := fun z => r.notin ha (by rw [← z]; exact List.mem_of_getElem? h2)
      exact (r.cell k y b h1 h2).ext (Ext.cell r ha) (fun h => h) fun u h => by show upd w.H a o b = _; rw [upd_ne ne]; exact h
    · have hk' : k = μ.length := by
        have := (List.getElem?_eq_some_iff.mp h1).1
        rw [List.length_append] at this
        simp at this
        omega
      subst hk'
      have e1 : x = y := by simpa using h1
      have e2 : a = b := by
        have := h2
        rw [show (⟨w.α ++ [a], w.Hs, upd w.H a o⟩ : Wd).α = w.α ++ [a] from rfl, ← r.len] at this
        simpa using this
      subst e1 e2
      exact hx
  al := fun b h => by
    show upd w.H a o b ≠ none
    by_cases e : b = a
    · subst e; rw [upd_same]; exact fun z => nomatch z
    · rw [upd_ne e]
      exact (List.mem_append.mp h).elim (r.al b) fun z => absurd (List.mem_singleton.mp z) e
/-- a cell is changed -/
theorem Ext.mut {w : Wd} {a : Addr} {o : HO} (ha : a ∈ w.α) (hn : w.H a ≠ none) : Ext w ⟨w.α, w.Hs, upd w.H a o⟩ where
  s := fun _ _ h => h
  al := List.prefix_rfl
  fr := fun b u h n => by show upd w.H a o b = _; rw [upd_ne (fun z => n (by rw [z]; exact ha))]; exact h
  na := fun _ h => .inl h
  ns := fun _ _ h => .inl h
  nd := fun b h => by
    by_cases e : b = a
    · subst e; rw [show (⟨w.α, w.Hs, upd w.H b o⟩ : Wd).H b = some o from upd_same] at h; cases h
    · rw [show (⟨w.α, w.Hs, upd w.H a o⟩ : Wd).H b = w.H b from upd_ne e] at h
      exact h
theorem nodup_get {α : Type} {l : List α} (h : l.Nodup) {i j : Nat} {a : α} (h1 : l[i]? = some a) (h2 : l[j]? = some a) : i = j := by
  obtain ⟨hi, e1⟩ := List.getElem?_eq_some_iff.mp h1
  obtain ⟨hj, e2⟩ := List.getElem?_eq_some_iff.mp h2
  exact (List.getElem_inj (h₀ := hi) (h₁ := hj) h).mp (e1.trans e2.symm)
theorem RelH.mut {w : Wd} {a : Addr} {o : HO} {μ : Sto} {k : Nat} {x : Cell} (r : RelH K CT w μ) (ha : w.α[k]? = some a) (hn : w.Hs a = none) (hx : CellOk K CT ⟨w.α, w.Hs, upd w.H a o⟩ a x) : RelH K CT ⟨w.α, w.Hs, upd w.H a o⟩ (μ.set k x) where
  s := fun b u h => by show upd w.H a o b = _; rw [upd_ne (ne_of_none h hn)]; exact r.s b u h
  len := by rw [List.length_set]; exact r.len
  nd := r.nd
  cell := fun j y b h1 h2 => by
    rw [List.getElem?_set] at h1
    by_cases e : k = j
    · subst e
      rw [if_pos rfl] at h1
      split at h1
      · cases h1
        have : w.α[k]? = some b := h2
        rw [ha] at this
        cases this
        exact hx
      · cases h1
    · rw [if_neg e] at h1
      have ne : b ≠ a := fun z => e (nodup_get r.nd ha (by rw [← z]; exact h2))
      exact (r.cell j y b h1 h2).ext (Ext.mut (List.mem_of_getElem? ha) (r.al a (List.mem_of_getElem? ha))) (fun h => h) fun u h => by show upd w.H a o b = _; rw [upd_ne ne]; exact h
  al := fun b h => by
    show upd w.H a o b ≠ none
    by_cases e : b = a
    · subst e; rw [upd_same]; exact fun z => nomatch z
    · rw [upd_ne e]; exact r.al b h
/-- a cell is frozen -/
theorem Ext.freeze {w : Wd} {a : Addr} {o : HO} (ha : a ∈ w.α) (hn : w.Hs a = none) : Ext w ⟨w.α, upd w.Hs a o, w.H⟩ where
  s := fun b u h => by show upd w.Hs a o b = _; rw [upd_ne (ne_of_none h hn)]; exact h
  al := List.prefix_rfl
  fr := fun _ _ h _ => h
  na := fun _ h => .inl h
  ns := fun b u h => by
    by_cases e : b = a
    · subst e; exact .inr (.inr ha)
    · rw [show (⟨w.α, upd w.Hs a o, w.H⟩ : Wd).Hs b = w.Hs b from upd_ne e] at h
      exact .inl h
  nd := fun _ h => h
theorem RelH.freeze {w : Wd} {a : Addr} {o : HO} {μ : Sto} {k : Nat} (r : RelH K CT w μ) (ha : w.α[k]? = some a) (hn : w.Hs a = none) (ho : w.H a = some o) : RelH K CT ⟨w.α, upd w.Hs a o, w.H⟩ (μ.set k .dead) where
  s := fun b u h => by
    by_cases e : b = a
    · subst e; rw [show (⟨w.α, upd w.Hs b o, w.H⟩ : Wd).Hs b = some o from upd_same] at h; cases h; exact ho
    · rw [show (⟨w.α, upd w.Hs a o, w.H⟩ : Wd).Hs b = w.Hs b from upd_ne e] at h; exact r.s b u h
  len := by rw [List.length_set]; exact r.len
  nd := r.nd
  cell := fun j y b h1 h2 => by
    rw [List.getElem?_set] at h1
    by_cases e : k = j
    · subst e
      rw [if_pos rfl] at h1
      split at h1
      · cases h1; trivial
      · cases h1
    · rw [if_neg e] at h1
      have ne : b ≠ a := fun z => e (nodup_get r.nd ha (by rw [← z]; exact h2))
      exact (r.cell j y b h1 h2).ext (Ext.freeze (List.mem_of_getElem? ha) hn) (fun h => by show upd w.Hs a o b = none; rw [upd_ne ne]; exact h) fun u h => h
  al := r.al
end

/-! ### what is wanted -/
section
variable (K : PySem.W.Frag) (CT : Str → Addr)
/-- an exception's class and its dict -/
def ExcAt (H : Hp) (c : Str) (ns : List Str) (vs : List PV) (Hs : Hp) (E : XK) : Prop := ∀ (d : Addr) (us : List V), H d = some (.xd (ns.zip us)) → ns.length = us.length → Reps K CT Hs us vs → E (.ref (CT c)) (some d) H
def Post {α β : Type} (R : Wd → β → α → Prop) (w : Wd) (Q : β → Hp → Prop) (E : XK) : Ro α → Prop
  | .ok r μ' => ∀ b w', Ext w w' → RelH K CT w' μ' → R w' b r → Q b w'.H
  | .exc c ns vs μ' => ∀ w', Ext w w' → RelH K CT w' μ' → ExcAt K CT w'.H c ns vs w'.Hs E
  | .no => False
def PostS (w : Wd) (D : Ends) (E : XK) : So → Prop
  | .nx ρ μ' => ∀ σ w', Ext w w' → RelH K CT w' μ' → EnvR K CT w' σ ρ → D.nx σ w'.H
  | .bk ρ μ' => ∀ σ w', Ext w w' → RelH K CT w' μ' → EnvR K CT w' σ ρ → D.bk σ w'.H
  | .ct ρ μ' => ∀ σ w', Ext w w' → RelH K CT w' μ' → EnvR K CT w' σ ρ → D.ct σ w'.H
  | .rt r μ' => ∀ v w', Ext w w' → RelH K CT w' μ' → EVRep K CT w' v r → D.rt v w'.H
  | .exc c ns vs μ' => ∀ w', Ext w w' → RelH K CT w' μ' → ExcAt K CT w'.H c ns vs w'.Hs E
  | .no => False
end
section
variable {K : PySem.W.Frag} {CT : Str → Addr} {α β γ δ : Type} {R : Wd → β → α → Prop} {R' : Wd → δ → γ → Prop} {w w' : Wd} {Q : β → Hp → Prop} {Q' : δ → Hp → Prop} {E : XK}
theorem Post.ext {m : Ro α} (x : Ext w w') (h : Post K CT R w Q E m) : Post K CT R w' Q E m := by
  cases m with
  | ok r μ => exact fun b w2 x2 r2 q => h b w2 (x.trans x2) r2 q
  | exc c ns vs μ => exact fun w2 x2 r2 => h w2 (x.trans x2) r2
  | no => exact h
theorem PostS.ext {D : Ends} {m : So} (x : Ext w w') (h : PostS K CT w D E m) : PostS K CT w' D E m := by
  cases m with
  | nx ρ μ => exact fun b w2 x2 r2 q => h b w2 (x.trans x2) r2 q
  | bk ρ μ => exact fun b w2 x2 r2 q => h b w2 (x.trans x2) r2 q
  | ct ρ μ => exact fun b w2 x2 r2 q => h b w2 (x.trans x2) r2 q
  | rt r μ => exact fun b w2 x2 r2 q => h b w2 (x.trans x2) r2 q
  | exc c ns vs μ => exact fun w2 x2 r2 => h w2 (x.trans x2) r2
  | no => exact h
theorem post_bind {m : Ro α} {g : α → Sto → Ro γ} (h : Post K CT R' w Q' E (m.bind g)) (k : ∀ a b w' μ', Ext w w' → RelH K CT w' μ' → R w' b a → Post K CT R' w' Q' E (g a μ') → Q b w'.H) : Post K CT R w Q E m := by
  cases m with
  | ok r μ => exact fun b w2 x2 r2 q => k r b w2 μ x2 r2 q (Post.ext x2 h)
  | exc c ns vs μ => exact h
  | no => exact h
theorem post_stm {m : Ro α} {g : α → Sto → So} {D : Ends} (h : PostS K CT w D E (m.stm g)) (k : ∀ a b w' μ', Ext w w' → RelH K CT w' μ' → R w' b a → PostS K CT w' D E (g a μ') → Q b w'.H) : Post K CT R w Q E m := by
  cases m with
  | ok r μ => exact fun b w2 x2 r2 q => k r b w2 μ x2 r2 q (PostS.ext x2 h)
  | exc c ns vs μ => exact h
  | no => exact h
end
end P

set_option Elab.async false
set_option linter.all false
set_option maxRecDepth 100000
set_option maxHeartbeats 4000000
/-! Readings by functions on trees. -/
namespace P
open PySem PySem.Spec L2 G
abbrev FE := Env → Sto → Ro EV
abbrev FA := Env → Sto → Ro (List EV)
abbrev FT := Env → Sto → Ro Bool
abbrev FS := Env → Sto → So
abbrev FG := EV → Env → Sto → Ro Env
abbrev FO := EV → EV → Sto → Ro EV
section
variable (K : PySem.W.Frag) (CT : Str → Addr) (E : XK)
def RE (t : TE) (f : FE) : Prop := ∀ (σ : L2.St) (ρ : Env) (w : Wd) (μ : Sto) (Q : VK), EnvR K CT w σ ρ → RelH K CT w μ → Post K CT (EVRep K CT) w Q E (f ρ μ) → t σ w.H Q
def RA (t : TA) (f : FA) : Prop := ∀ (σ : L2.St) (ρ : Env) (w : Wd) (μ : Sto) (Q : List V → Hp → Prop), EnvR K CT w σ ρ → RelH K CT w μ → Post K CT (EVReps K CT) w Q E (f ρ μ) → t σ w.H Q
def RT (t : TT) (f : FT) : Prop := ∀ (σ : L2.St) (ρ : Env) (w : Wd) (μ : Sto) (Q : Bool → Hp → Prop), EnvR K CT w σ ρ → RelH K CT w μ → Post K CT (fun _ b a => b = a) w Q E (f ρ μ) → t σ w.H Q
def RS (t : TS) (f : FS) : Prop := ∀ (D : Ends) (σ : L2.St) (ρ : Env) (w : Wd) (μ : Sto), EnvR K CT w σ ρ → RelH K CT w μ → PostS K CT w D E (f ρ μ) → t D σ w.H
def RG (g : TG) (f : FG) : Prop := ∀ (v : V) (e : EV) (σ : L2.St) (ρ : Env) (w : Wd) (μ : Sto) (Q : L2.St → Hp → Prop), EVRep K CT w v e → EnvR K CT w σ ρ → RelH K CT w μ → Post K CT (EnvR K CT) w Q E (f e ρ μ) → g v σ w.H Q
def RGs (g : TGs) (f : List EV → Env → Sto → Ro Env) : Prop := ∀ (v : List V) (e : List EV) (σ : L2.St) (ρ : Env) (w : Wd) (μ : Sto) (Q : L2.St → Hp → Prop), EVReps K CT w v e → EnvR K CT w σ ρ → RelH K CT w μ → Post K CT (EnvR K CT) w Q E (f e ρ μ) → g v σ w.H Q
def ROp (r : R2) (o : FO) : Prop := ∀ (w : Wd) (μ : Sto) (v u : V) (x y : EV) (Q : VK), RelH K CT w μ → EVRep K CT w v x → EVRep K CT w u y → Post K CT (EVRep K CT) w Q E (o x y μ) → r v u w.H Q
def RU (r : V → Hp → VK → Prop) (o : EV → Sto → Ro EV) : Prop := ∀ (w : Wd) (μ : Sto) (v : V) (x : EV) (Q : VK), RelH K CT w μ → EVRep K CT w v x → Post K CT (EVRep K CT) w Q E (o x μ) → r v w.H Q
def RC (r : List V → Hp → VK → Prop) (o : List EV → Sto → Ro EV) : Prop := ∀ (w : Wd) (μ : Sto) (vs : List V) (xs : List EV) (Q : VK), RelH K CT w μ → EVReps K CT w vs xs → Post K CT (EVRep K CT) w Q E (o xs μ) → r vs w.H Q
def RM (r : V → List V → Hp → VK → Prop) (T : String) (o : EV → List EV → Sto → Ro EV) : Prop := ∀ (w : Wd) (μ : Sto) (v : V) (vs : List V) (x : EV) (xs : List EV) (Q : VK), RelH K CT w μ → EVRep K CT w v x → EVReps K CT w vs xs → Post K CT (EVRep K CT) w Q E (o x xs μ) → r v vs w.H Q
/-- what an iterator yields -/
def RIt (w : Wd) (J : It) (items : List EV) : Prop := ∀ w' μ', Ext w w' → RelH K CT w' μ' → J.stop items.length w'.H ∧ ∀ (i : Nat) (e : EV), items[i]? = some e → J.go i w'.H ∧ ∀ x H', J.yld i w'.H x H' → ∃ w2, Ext w' w2 ∧ RelH K CT w2 μ' ∧ w2.H = H' ∧ EVRep K CT w2 x e
def RI (t : TI) (f : FA) : Prop := ∀ (σ : L2.St) (ρ : Env) (w : Wd) (μ : Sto) (Q : It → Hp → Prop), EnvR K CT w σ ρ → RelH K CT w μ → Post K CT (RIt K CT) w Q E (f ρ μ) → t σ w.H Q
end
/-! ### expressions -/
def varM (i : Nat) : FE := fun ρ μ => match ρ[i]? with
  | some (some e) => .ok e μ
  | _ => .no
def cM (p : PV) : FE := fun _ μ => .ok (.v p) μ
def opM (o : FO) (fa fb : FE) : FE := fun ρ μ => (fa ρ μ).bind fun x μ1 => (fb ρ μ1).bind fun y μ2 => o x y μ2
def unM (o : EV → Sto → Ro EV) (fa : FE) : FE := fun ρ μ => (fa ρ μ).bind fun x μ1 => o x μ1
def blE (e : EV) (μ : Sto) : Ro Bool := match e with
  | .v (.bl b) => .ok b μ
  | _ => .no
def andVM (fa fb : FE) : FE := fun ρ μ => (fa ρ μ).bind fun x μ1 => (blE x μ1).bind fun c μ2 => if c then fb ρ μ2 else .ok (.v (.bl false)) μ2
def orVM (fa fb : FE) : FE := fun ρ μ => (fa ρ μ).bind fun x μ1 => (blE x μ1).bind fun c μ2 => if c then .ok (.v (.bl true)) μ2 else fb ρ μ2
def notVM (fa : FE) : FE := fun ρ μ => (fa ρ μ).bind fun x μ1 => (blE x μ1).bind fun c μ2 => .ok (.v (.bl (!c))) μ2
def ifM (ft : FT) (fa fb : FE) : FE := fun ρ μ => (ft ρ μ).bind fun c μ1 => if c then fa ρ μ1 else fb ρ μ1
def chainM (o o' : FO) (fa fb fc : FE) : FE := fun ρ μ => (fa ρ μ).bind fun x μ1 => (fb ρ μ1).bind fun y μ2 => (o x y μ2).bind fun z μ3 => (blE z μ3).bind fun c μ4 => if c then (fc ρ μ4).bind fun u μ5 => o' y u μ5 else .ok (.v (.bl false)) μ4
def nilM : FA := fun _ μ => .ok [] μ
def consM (fa : FE) (fr : FA) : FA := fun ρ μ => (fa ρ μ).bind fun x μ1 => (fr ρ μ1).bind fun xs μ2 => .ok (x :: xs) μ2
/-- all are values -/
def pvs : List EV → Option (List PV)
  | [] => some []
  | .v p :: r => (pvs r).map (p :: ·)
  | .c _ :: _ => none
def valsM (xs : List EV) (μ : Sto) (k : List PV → Ro EV) : Ro EV := match pvs xs with
  | some ps => if ps.length ≤ sizeLine then k ps else .no
  | none => .no
def tupM (fa : FA) : FE := fun ρ μ => (fa ρ μ).bind fun xs μ1 => valsM xs μ1 fun ps => .ok (.v (.tup ps)) μ1
def lstM (fa : FA) : FE := fun ρ μ => (fa ρ μ).bind fun xs μ1 => valsM xs μ1 fun ps => .ok (.v (.lst ps)) μ1
/-- a list that will be changed -/
def lstC (fa : FA) : FE := fun ρ μ => (fa ρ μ).bind fun xs μ1 => valsM xs μ1 fun ps => .ok (.c μ1.length) (μ1 ++ [.lst ps])
def cbM (o : List EV → Sto → Ro EV) (fa : FA) : FE := fun ρ μ => (fa ρ μ).bind fun xs μ1 => o xs μ1
def bmM (o : EV → List EV → Sto → Ro EV) (fo : FE) (fa : FA) : FE := fun ρ μ => (fo ρ μ).bind fun x μ1 => (fa ρ μ1).bind fun xs μ2 => o x xs μ2
/-! ### tests -/
def tstM (fa : FE) : FT := fun ρ μ => (fa ρ μ).bind fun x μ1 => blE x μ1
def tandM (f g : FT) : FT := fun ρ μ => (f ρ μ).bind fun c μ1 => if c then g ρ μ1 else .ok false μ1
def torM (f g : FT) : FT := fun ρ μ => (f ρ μ).bind fun c μ1 => if c then .ok true μ1 else g ρ μ1
def tnotM (f : FT) : FT := fun ρ μ => (f ρ μ).bind fun c μ1 => .ok (!c) μ1
def tyesM : FT := fun _ μ => .ok true μ
/-! ### statements -/
def nxS : FS := fun ρ μ => .nx ρ μ
def So.seq (m : So) (g : FS) : So := match m with
  | .nx ρ μ => g ρ μ
  | z => z
@[simp] theorem seq_nx {ρ : Env} {μ : Sto} {g : FS} : (So.nx ρ μ).seq g = g ρ μ := rfl
@[simp] theorem seq_rt {r : EV} {μ : Sto} {g : FS} : (So.rt r μ).seq g = .rt r μ := rfl
@[simp] theorem seq_bk {ρ : Env} {μ : Sto} {g : FS} : (So.bk ρ μ).seq g = .bk ρ μ := rfl
@[simp] theorem seq_ct {ρ : Env} {μ : Sto} {g : FS} : (So.ct ρ μ).seq g = .ct ρ μ := rfl
def seqS (f g : FS) : FS := fun ρ μ => (f ρ μ).seq g
def asgS (fe : FE) (g : FG) : FS := fun ρ μ => (fe ρ μ).stm fun x μ1 => (g x ρ μ1).stm fun ρ' μ2 => .nx ρ' μ2
def retS (fe : FE) : FS := fun ρ μ => (fe ρ μ).stm fun x μ1 => .rt x μ1
def retN : FS := fun _ μ => .rt (.v .non) μ
def dropS (fe : FE) : FS := fun ρ μ => (fe ρ μ).stm fun _ μ1 => .nx ρ μ1
def ifS (ft : FT) (f g : FS) : FS := fun ρ μ => (ft ρ μ).stm fun c μ1 => if c then f ρ μ1 else g ρ μ1
def bkS : FS := fun ρ μ => .bk ρ μ
def ctS : FS := fun ρ μ => .ct ρ μ
def noS : FS := fun _ _ => .no
def setS (i : Nat) (fe : FE) : FS := fun ρ μ => (fe ρ μ).stm fun x μ1 => .nx (ρ.set i (some x)) μ1
def nameG (i : Nat) : FG := fun e ρ μ => .ok (ρ.set i (some e)) μ
def nilG : List EV → Env → Sto → Ro Env := fun es ρ μ => match es with
  | [] => .ok ρ μ
  | _ => .no
def consG (g : FG) (gs : List EV → Env → Sto → Ro Env) : List EV → Env → Sto → Ro Env := fun es ρ μ => match es with
  | e :: r => (g e ρ μ).bind fun ρ1 μ1 => gs r ρ1 μ1
  | [] => .no
def tupG (n : Nat) (gs : List EV → Env → Sto → Ro Env) : FG := fun e ρ μ => match e with
  | .v (.tup ps) => if ps.length = n then gs (ps.map EV.v) ρ μ else .no
  | _ => .no
def parS (i j : Nat) (fa : FA) : FS := fun ρ μ => (fa ρ μ).stm fun xs μ1 => match xs with
  | [a, b] => .nx ((ρ.set i (some a)).set j (some b)) μ1
  | _ => .no
def par3S (i j l : Nat) (fa : FA) : FS := fun ρ μ => (fa ρ μ).stm fun xs μ1 => match xs with
  | [a, b, c] => .nx (((ρ.set i (some a)).set j (some b)).set l (some c)) μ1
  | _ => .no
/-- behind a loop's body: on, or out -/
def So.turn (m : So) (again : FS) : So := match m with
  | .nx ρ μ => again ρ μ
  | .ct ρ μ => again ρ μ
  | .bk ρ μ => .nx ρ μ
  | z => z
@[simp] theorem turn_nx {ρ : Env} {μ : Sto} {g : FS} : (So.nx ρ μ).turn g = g ρ μ := rfl
@[simp] theorem turn_ct {ρ : Env} {μ : Sto} {g : FS} : (So.ct ρ μ).turn g = g ρ μ := rfl
@[simp] theorem turn_bk {ρ : Env} {μ : Sto} {g : FS} : (So.bk ρ μ).turn g = .nx ρ μ := rfl
@[simp] theorem turn_rt {r : EV} {μ : Sto} {g : FS} : (So.rt r μ).turn g = .rt r μ := rfl
def loopS (g : FG) (bd : FS) : List EV → FS
  | [] => fun ρ μ => .nx ρ μ
  | x :: xs => fun ρ μ => (g x ρ μ).stm fun ρ1 μ1 => (bd ρ1 μ1).turn (loopS g bd xs)
def forS (fi : FA) (g : FG) (bd : FS) : FS := fun ρ μ => (fi ρ μ).stm fun xs μ1 => loopS g bd xs ρ μ1
def whS (ft : FT) (bd : FS) : Nat → FS
  | 0 => fun _ _ => .no
  | n + 1 => fun ρ μ => (ft ρ μ).stm fun c μ1 => if c then (bd ρ μ1).turn (whS ft bd n) else .nx ρ μ1
/-- comprehension -/
def lcGo (g : FG) (tt : FT) (te : FE) (ρ0 : Env) : List EV → List PV → Sto → Ro (List PV)
  | [], acc, μ => .ok acc μ
  | x :: xs, acc, μ => (g x ρ0 μ).bind fun ρ1 μ1 => (tt ρ1 μ1).bind fun c μ2 => if c then (te ρ1 μ2).bind fun y μ3 => match y with
      | .v p => if acc.length < sizeLine then lcGo g tt te ρ0 xs (acc ++ [p]) μ3 else .no
      | .c _ => .no
    else lcGo g tt te ρ0 xs acc μ2
def wipeE (ρ : Env) (vs : List Nat) : Env := vs.foldl (fun r i => r.set i none) ρ
def lcM (fi : FA) (g : FG) (tt : FT) (te : FE) (vs : List Nat) : FE := fun ρ μ => (fi ρ μ).bind fun xs μ1 => (lcGo g tt te (wipeE ρ vs) xs [] μ1).bind fun ps μ2 => .ok (.v (.lst ps)) μ2
section
variable {K : PySem.W.Frag} {CT : Str → Addr} {E : XK} {ta tb tc te : TE} {fa fb fc fe : FE} {tt tu : TT} {ft fu : FT} {i : Nat}
theorem EVRep.bl_inv {w : Wd} {v : V} {b : Bool} (h : EVRep K CT w v (.v (.bl b))) : v = .bl b := by
  cases h with
  | v h => cases h; rfl
theorem re_var : RE K CT E (tVar i) (varM i) := by
  intro σ ρ w μ Q e r h
  unfold varM at h
  split at h
  · rename_i x hx
    obtain ⟨v, h1, h2⟩ := e.get i x hx
    exact ⟨v, h1, h v w .refl r h2⟩
  · exact h.elim
theorem re_c {v : V} {p : PV} (h : ∀ H, Rep K CT H v p) : RE K CT E (tC v) (cM p) := fun σ ρ w μ Q e r q => q v w .refl r (.v (h _))
theorem re_int {n : Int} : RE K CT E (tC (.int n)) (cM (.int n)) := re_c fun _ => .int n
theorem re_str {n : Str} : RE K CT E (tC (.str n)) (cM (.str n)) := re_c fun _ => .str n
theorem re_bl {n : Bool} : RE K CT E (tC (.bl n)) (cM (.bl n)) := re_c fun _ => .bl n
theorem re_non : RE K CT E (tC .non) (cM .non) := re_c fun _ => .non
theorem re_ty {n : String} : RE K CT E (tC (.ty n)) (cM (.ty n)) := re_c fun _ => .ty n
theorem re_op {r : R2} {o : FO} (ho : ROp K CT E r o) (ha : RE K CT E ta fa) (hb : RE K CT E tb fb) : RE K CT E (tOp r ta tb) (opM o fa fb) := by
  intro σ ρ w μ Q e r h
  refine ha σ ρ w μ _ e r (post_bind h fun x v w1 μ1 e1 r1 q1 h1 => ?_)
  refine hb σ ρ w1 μ1 _ (e.ext e1) r1 (post_bind h1 fun y u w2 μ2 e2 r2 q2 h2 => ?_)
  exact ho w2 μ2 v u x y Q r2 (q1.ext e2) q2 h2
theorem re_un {r : V → Hp → VK → Prop} {o : EV → Sto → Ro EV} (ho : RU K CT E r o) (ha : RE K CT E ta fa) : RE K CT E (tUn r ta) (unM o fa) := by
  intro σ ρ w μ Q e r h
  refine ha σ ρ w μ _ e r (post_bind h fun x v w1 μ1 e1 r1 q1 h1 => ?_)
  exact ho w1 μ1 v x Q r1 q1 h1
theorem blE_post {w : Wd} {μ : Sto} {x : EV} {v : V} {γ δ : Type} {R' : Wd → δ → γ → Prop} {Q' : δ → Hp → Prop} {g : Bool → Sto → Ro γ} (r : RelH K CT w μ) (q : EVRep K CT w v x) (h : Post K CT R' w Q' E ((blE x μ).bind g)) : ∃ c, v = .bl c ∧ Post K CT R' w Q' E (g c μ) := by
  unfold blE at h
  split at h
  · exact ⟨_, q.bl_inv, h⟩
  · exact h.elim
theorem re_and (ha : RE K CT E ta fa) (hb : RE K CT E tb fb) : RE K CT E (tAndV ta tb) (andVM fa fb) := by
  intro σ ρ w μ Q e r h
  refine ha σ ρ w μ _ e r (post_bind h fun x v w1 μ1 e1 r1 q1 h1 => ?_)
  obtain ⟨c, rfl, h2⟩ := blE_post r1 q1 h1
  refine ⟨c, rfl, ?_⟩
  cases c with
  | true => exact hb σ ρ w1 μ1 Q (e.ext e1) r1 h2
  | false => exact h2 (.bl false) w1 .refl r1 (.v (.bl false))
theorem re_or (ha : RE K CT E ta fa) (hb : RE K CT E tb fb) : RE K CT E (tOrV ta tb) (orVM fa fb) := by
  intro σ ρ w μ Q e r h
  refine ha σ ρ w μ _ e r (post_bind h fun x v w1 μ1 e1 r1 q1 h1 => ?_)
  obtain ⟨c, rfl, h2⟩ := blE_post r1 q1 h1
  refine ⟨c, rfl, ?_⟩
  cases c with
  | true => exact h2 (.bl true) w1 .refl r1 (.v (.bl true))
  | false => exact hb σ ρ w1 μ1 Q (e.ext e1) r1 h2
theorem re_not (ha : RE K CT E ta fa) : RE K CT E (tNotV ta) (notVM fa) := by
  intro σ ρ w μ Q e r h
  refine ha σ ρ w μ _ e r (post_bind h fun x v w1 μ1 e1 r1 q1 h1 => ?_)
  obtain ⟨c, rfl, h2⟩ := blE_post r1 q1 h1
  exact ⟨c, rfl, h2 (.bl (!c)) w1 .refl r1 (.v (.bl _))⟩
theorem re_if (ht : RT K CT E tt ft) (ha : RE K CT E ta fa) (hb : RE K CT E tb fb) : RE K CT E (tIf tt ta tb) (ifM ft fa fb) := by
  intro σ ρ w μ Q e r h
  refine ht σ ρ w μ _ e r (post_bind h fun x v w1 μ1 e1 r1 q1 h1 => ?_)
  subst q1
  cases v with
  | true => exact ha σ ρ w1 μ1 Q (e.ext e1) r1 h1
  | false => exact hb σ ρ w1 μ1 Q (e.ext e1) r1 h1
theorem re_chain {r r' : R2} {o o' : FO} (ho : ROp K CT E r o) (ho' : ROp K CT E r' o') (ha : RE K CT E ta fa) (hb : RE K CT E tb fb) (hc : RE K CT E tc fc) : RE K CT E (tChain r r' ta tb tc) (chainM o o' fa fb fc) := by
  intro σ ρ w μ Q e r h
  refine ha σ ρ w μ _ e r (post_bind h fun x v w1 μ1 e1 r1 q1 h1 => ?_)
  refine hb σ ρ w1 μ1 _ (e.ext e1) r1 (post_bind h1 fun y u w2 μ2 e2 r2 q2 h2 => ?_)
  refine ho w2 μ2 v u x y _ r2 (q1.ext e2) q2 (post_bind h2 fun z z' w3 μ3 e3 r3 q3 h3 => ?_)
  obtain ⟨c, rfl, h4⟩ := blE_post r3 q3 h3
  refine ⟨c, rfl, ?_⟩
  cases c with
  | true =>
    rw [if_pos rfl] at h4 ⊢
    refine hc σ ρ w3 μ3 _ (e.ext (e1.trans (e2.trans e3))) r3 (post_bind h4 fun z2 u2 w4 μ4 e4 r4 q4 h5 => ?_)
    exact ho' w4 μ4 u u2 y z2 Q r4 (q2.ext (e3.trans e4)) q4 h5
  | false => exact h4 (.bl false) w3 .refl r3 (.v (.bl false))
theorem ra_nil : RA K CT E tNil nilM := fun σ ρ w μ Q e r h => h [] w .refl r .nil
theorem ra_cons {tr : TA} {fr : FA} (ha : RE K CT E ta fa) (hr : RA K CT E tr fr) : RA K CT E (tCons ta tr) (consM fa fr) := by
  intro σ ρ w μ Q e r h
  refine ha σ ρ w μ _ e r (post_bind h fun x v w1 μ1 e1 r1 q1 h1 => ?_)
  refine hr σ ρ w1 μ1 _ (e.ext e1) r1 (post_bind h1 fun xs vs w2 μ2 e2 r2 q2 h2 => ?_)
  exact h2 _ w2 .refl r2 (.cons (q1.ext e2) q2)
theorem pvs_reps {w : Wd} : ∀ {vs : List V} {es : List EV} {ps : List PV}, EVReps K CT w vs es → pvs es = some ps → Reps K CT w.Hs vs ps
  | _, _, _, .nil, e => by cases e; exact .nil
  | _, _, _, .cons (.v h) t, e => by
    simp only [pvs, Option.map_eq_some_iff] at e
    obtain ⟨qs, e1, rfl⟩ := e
    exact .cons h (pvs_reps t e1)
  | _, _, _, .cons (.c h) t, e => by simp [pvs] at e
theorem valsM_post {w : Wd} {μ : Sto} {vs : List V} {xs : List EV} {k : List PV → Ro EV} {Q : VK} (q : EVReps K CT w vs xs) (h : Post K CT (EVRep K CT) w Q E (valsM xs μ k)) : ∃ ps, Reps K CT w.Hs vs ps ∧ vs.length ≤ sizeLine ∧ Post K CT (EVRep K CT) w Q E (k ps) := by
  unfold valsM at h
  split at h
  · rename_i ps e
    have hr := pvs_reps q e
    split at h
    · rename_i hl
      exact ⟨ps, hr, by rw [hr.length]; exact hl, h⟩
    · exact h.elim
  · exact h.elim
/-- a new value is laid -/
theorem post_new {w : Wd} {μ : Sto} {Q : VK} {o : HO} {p : PV} {a : Addr} (r : RelH K CT w μ) (hp : ∀ H, H a = some o → Same w.Hs H → Rep K CT H (.ref a) p) (h : Post K CT (EVRep K CT) w Q E (.ok (.v p) μ)) (ha : w.H a = none) : Q (.ref a) (upd w.H a o) := by
  have e := Ext.new (o := o) r ha
  exact h (.ref a) ⟨w.α, upd w.Hs a o, upd w.H a o⟩ e (r.new ha) (.v (hp _ upd_same e.s))
theorem post_newC {w : Wd} {μ : Sto} {Q : VK} {o : HO} {x : Cell} {a : Addr} (r : RelH K CT w μ) (ha : w.H a = none) (hx : CellOk K CT ⟨w.α ++ [a], w.Hs, upd w.H a o⟩ a x) (h : Post K CT (EVRep K CT) w Q E (.ok (.c μ.length) (μ ++ [x]))) : Q (.ref a) (upd w.H a o) :=
  h (.ref a) ⟨w.α ++ [a], w.Hs, upd w.H a o⟩ (Ext.cell r ha) (r.addCell ha hx) (.c (by show (w.α ++ [a])[μ.length]? = some a; rw [← r.len]; simp))
theorem re_tup {t : TA} {f : FA} (ha : RA K CT E t f) : RE K CT E (tTup t) (tupM f) := by
  intro σ ρ w μ Q e r h
  refine ha σ ρ w μ _ e r (post_bind h fun xs vs w1 μ1 e1 r1 q1 h1 => ?_)
  obtain ⟨ps, hr, hl, h2⟩ := valsM_post q1 h1
  exact ⟨hl, fun p hp => post_new r1 (fun H hH s => .tup (.of hH) (hr.same s)) h2 hp⟩
theorem re_lst {t : TA} {f : FA} (ha : RA K CT E t f) : RE K CT E (tLst t) (lstM f) := by
  intro σ ρ w μ Q e r h
  refine ha σ ρ w μ _ e r (post_bind h fun xs vs w1 μ1 e1 r1 q1 h1 => ?_)
  obtain ⟨ps, hr, hl, h2⟩ := valsM_post q1 h1
  exact ⟨hl, fun p hp => post_new r1 (fun H hH s => .lst hH (hr.same s)) h2 hp⟩
theorem re_lstC {t : TA} {f : FA} (ha : RA K CT E t f) : RE K CT E (tLst t) (lstC f) := by
  intro σ ρ w μ Q e r h
  refine ha σ ρ w μ _ e r (post_bind h fun xs vs w1 μ1 e1 r1 q1 h1 => ?_)
  obtain ⟨ps, hr, hl, h2⟩ := valsM_post q1 h1
  exact ⟨hl, fun p hp => post_newC (x := .lst ps) r1 hp ⟨r1.free hp, vs, upd_same, hr⟩ h2⟩
theorem re_cb {r : List V → Hp → VK → Prop} {o : List EV → Sto → Ro EV} {t : TA} {f : FA} (ho : RC K CT E r o) (ha : RA K CT E t f) : RE K CT E (tCB r t) (cbM o f) := by
  intro σ ρ w μ Q e r h
  refine ha σ ρ w μ _ e r (post_bind h fun xs vs w1 μ1 e1 r1 q1 h1 => ?_)
  exact ho w1 μ1 vs xs Q r1 q1 h1
/-! ### tests -/
theorem rt_test (ha : RE K CT E ta fa) : RT K CT E (tTest ta) (tstM fa) := by
  intro σ ρ w μ Q e r h
  refine ha σ ρ w μ _ e r (post_bind h fun x v w1 μ1 e1 r1 q1 h1 => ?_)
  have h1' : Post K CT (fun _ b a => b = a) w1 Q E ((blE x μ1).bind fun c μ2 => .ok c μ2) := by
    revert h1
    unfold blE
    split <;> exact fun h => h
  obtain ⟨c, rfl, h2⟩ := blE_post r1 q1 h1'
  exact ⟨c, rfl, h2 c w1 .refl r1 rfl⟩
theorem rt_B (ha : RE K CT E ta fa) : RT K CT E (tB ta) (tstM fa) := rt_test ha
theorem rt_and (ha : RT K CT E tt ft) (hb : RT K CT E tu fu) : RT K CT E (tAnd tt tu) (tandM ft fu) := by
  intro σ ρ w μ Q e r h
  refine ha σ ρ w μ _ e r (post_bind h fun x v w1 μ1 e1 r1 q1 h1 => ?_)
  subst q1
  cases v with
  | true => exact hb σ ρ w1 μ1 Q (e.ext e1) r1 h1
  | false => exact h1 false w1 .refl r1 rfl
theorem rt_or (ha : RT K CT E tt ft) (hb : RT K CT E tu fu) : RT K CT E (tOr tt tu) (torM ft fu) := by
  intro σ ρ w μ Q e r h
  refine ha σ ρ w μ _ e r (post_bind h fun x v w1 μ1 e1 r1 q1 h1 => ?_)
  subst q1
  cases v with
  | true => exact h1 true w1 .refl r1 rfl
  | false => exact hb σ ρ w1 μ1 Q (e.ext e1) r1 h1
theorem rt_not (ha : RT K CT E tt ft) : RT K CT E (tNot tt) (tnotM ft) := by
  intro σ ρ w μ Q e r h
  refine ha σ ρ w μ _ e r (post_bind h fun x v w1 μ1 e1 r1 q1 h1 => ?_)
  subst q1
  exact h1 (!v) w1 .refl r1 rfl
theorem rt_yes : RT K CT E tYes tyesM := fun σ ρ w μ Q e r h => h true w .refl r rfl
/-! ### statements -/
variable {t u : TS} {f g : FS}
theorem rs_next : RS K CT E tNext nxS := fun D σ ρ w μ e r h => h σ w .refl r e
theorem rs_seq (h1 : RS K CT E t f) (h2 : RS K CT E u g) : RS K CT E (tSeq t u) (seqS f g) := by
  intro D σ ρ w μ e r h
  refine h1 _ σ ρ w μ e r ?_
  have h' : PostS K CT w D E ((f ρ μ).seq g) := h
  revert h'
  cases f ρ μ with
  | nx ρ' μ' => exact fun h' σ' w' x r' e' => h2 D σ' ρ' w' μ' e' r' (h'.ext x)
  | rt r μ' => exact fun h' => h'
  | bk ρ' μ' => exact fun h' => h'
  | ct ρ' μ' => exact fun h' => h'
  | exc c ns vs μ' => exact fun h' => h'
  | no => exact fun h' => h'
theorem rs_asg {tg : TG} {fg : FG} (he : RE K CT E te fe) (hg : RG K CT E tg fg) : RS K CT E (tAsg te tg) (asgS fe fg) := by
  intro D σ ρ w μ e r h
  refine he σ ρ w μ _ e r (post_stm h fun x v w1 μ1 e1 r1 q1 h1 => ?_)
  refine hg v x σ ρ w1 μ1 _ q1 (e.ext e1) r1 (post_stm h1 fun ρ' σ' w2 μ2 e2 r2 q2 h2 => ?_)
  exact h2 σ' w2 .refl r2 q2
theorem rs_set (he : RE K CT E te fe) : RS K CT E (tAsg te (gName i)) (setS i fe) := by
  intro D σ ρ w μ e r h
  refine he σ ρ w μ _ e r (post_stm h fun x v w1 μ1 e1 r1 q1 h1 => ?_)
  exact h1 _ w1 .refl r1 ((e.ext e1).set i q1)
theorem rs_ret (he : RE K CT E te fe) : RS K CT E (tRet te) (retS fe) := by
  intro D σ ρ w μ e r h
  refine he σ ρ w μ _ e r (post_stm h fun x v w1 μ1 e1 r1 q1 h1 => ?_)
  exact h1 v w1 .refl r1 q1
theorem rs_retN : RS K CT E tRetN retN := fun D σ ρ w μ e r h => h .non w .refl r (.v .non)
theorem rs_drop (he : RE K CT E te fe) : RS K CT E (tDrop te) (dropS fe) := by
  intro D σ ρ w μ e r h
  refine he σ ρ w μ _ e r (post_stm h fun x v w1 μ1 e1 r1 q1 h1 => ?_)
  exact h1 σ w1 .refl r1 (e.ext e1)
theorem rs_if (ht : RT K CT E tt ft) (h1 : RS K CT E t f) (h2 : RS K CT E u g) : RS K CT E (tIfS tt t u) (ifS ft f g) := by
  intro D σ ρ w μ e r h
  refine ht σ ρ w μ _ e r (post_stm h fun x v w1 μ1 e1 r1 q1 h3 => ?_)
  subst q1
  cases v with
  | true => exact h1 D σ ρ w1 μ1 (e.ext e1) r1 h3
  | false => exact h2 D σ ρ w1 μ1 (e.ext e1) r1 h3
theorem rs_bk : RS K CT E tBreak bkS := fun D σ ρ w μ e r h => h σ w .refl r e
theorem rs_ct : RS K CT E tCont ctS := fun D σ ρ w μ e r h => h σ w .refl r e
theorem rs_no : RS K CT E t noS := fun D σ ρ w μ e r h => h.elim
theorem rg_name : RG K CT E (gName i) (nameG i) := fun v x σ ρ w μ Q q e r h => h _ w .refl r (e.set i q)
theorem rg_nil : RGs K CT E gNil nilG := by
  intro vs es σ ρ w μ Q q e r h
  cases q with
  | nil => exact ⟨rfl, h σ w .refl r e⟩
  | cons _ _ => exact h.elim
theorem rg_cons {tg : TG} {fg : FG} {tgs : TGs} {fgs : List EV → Env → Sto → Ro Env} (h1 : RG K CT E tg fg) (h2 : RGs K CT E tgs fgs) : RGs K CT E (gCons tg tgs) (consG fg fgs) := by
  intro vs es σ ρ w μ Q q e r h
  cases q with
  | nil => exact h.elim
  | cons q1 q2 =>
    refine ⟨_, _, rfl, h1 _ _ σ ρ w μ _ q1 e r (post_bind h fun ρ1 σ1 w1 μ1 e1 r1 s1 h3 => ?_)⟩
    exact h2 _ _ σ1 ρ1 w1 μ1 Q (q2.ext e1) s1 r1 h3
theorem rg_tup {n : Nat} {tgs : TGs} {fgs : List EV → Env → Sto → Ro Env} (h1 : RGs K CT E tgs fgs) : RG K CT E (gTup K n tgs) (tupG n fgs) := by
  intro v x σ ρ w μ Q q e r h
  unfold tupG at h
  split at h
  · split at h
    · rename_i ps hl
      cases q with
      | v q =>
        cases q with
        | tup hs hr =>
          exact ⟨_, _, rfl, sqT_same r.s hs, by rw [hr.length]; exact hl, h1 _ _ σ ρ w μ Q (.of hr) e r h⟩
    · exact h.elim
  · exact h.elim
theorem rs_par {j : Nat} {ta : TA} {fa : FA} (ha : RA K CT E ta fa) : RS K CT E (tPar i j ta) (parS i j fa) := by
  intro D σ ρ w μ e r h
  refine ha σ ρ w μ _ e r (post_stm h fun xs vs w1 μ1 e1 r1 q1 h1 => ?_)
  split at h1
  · cases q1 with
    | cons a q1 => cases q1 with
      | cons b q1 =>
        cases q1
        exact ⟨_, _, rfl, h1 _ w1 .refl r1 (((e.ext e1).set i a).set j b)⟩
  · exact h1.elim
theorem rs_par3 {j l : Nat} {ta : TA} {fa : FA} (ha : RA K CT E ta fa) : RS K CT E (tPar3 i j l ta) (par3S i j l fa) := by
  intro D σ ρ w μ e r h
  refine ha σ ρ w μ _ e r (post_stm h fun xs vs w1 μ1 e1 r1 q1 h1 => ?_)
  split at h1
  · cases q1 with
    | cons a q1 => cases q1 with
      | cons b q1 => cases q1 with
        | cons c q1 =>
          cases q1
          exact ⟨_, _, _, rfl, h1 _ w1 .refl r1 ((((e.ext e1).set i a).set j b).set l c)⟩
  · exact h1.elim
/-! ### loops -/
theorem turn_post {w : Wd} {D : Ends} {m : So} {again : FS} (h : PostS K CT w D E (m.turn again)) {N : L2.St → Hp → Prop} (k : ∀ ρ μ σ w', Ext w w' → RelH K CT w' μ → EnvR K CT w' σ ρ → PostS K CT w' D E (again ρ μ) → N σ w'.H) : PostS K CT w ⟨N, D.rt, D.nx, N⟩ E m := by
  cases m with
  | nx ρ μ => exact fun σ w' x r e => k ρ μ σ w' x r e (PostS.ext x h)
  | ct ρ μ => exact fun σ w' x r e => k ρ μ σ w' x r e (PostS.ext x h)
  | bk ρ μ => exact h
  | rt r μ => exact h
  | exc c ns vs μ => exact h
  | no => exact h
theorem rs_for {wi : TI} {fi : FA} {tg : TG} {fg : FG} (hi : RI K CT E wi fi) (hg : RG K CT E tg fg) (hb : RS K CT E t f) : RS K CT E (tFor wi tg t) (forS fi fg f) := by
  intro D σ ρ w μ e r h
  refine hi σ ρ w μ _ e r (post_stm h fun items J w1 μ1 e1 r1 q1 h1 => ?_)
  refine ⟨fun i m σ' H' => m + i = items.length ∧ ∃ w' ρ' μ', w'.H = H' ∧ Ext w1 w' ∧ EnvR K CT w' σ' ρ' ∧ RelH K CT w' μ' ∧ PostS K CT w' D E (loopS fg f (items.drop i) ρ' μ'),
    ⟨items.length, rfl, w1, ρ, μ1, rfl, .refl, e.ext e1, r1, h1⟩, ?_⟩
  rintro i m σ' H' ⟨hm, w', ρ', μ', rfl, x', e', r', h'⟩
  obtain ⟨hs, hgo⟩ := q1 w' μ' x' r'
  by_cases hi : i < items.length
  · obtain ⟨hgo1, hy⟩ := hgo i items[i] (by simp [hi])
    refine .inr ⟨hgo1, _, fun _ _ z => z, fun x H2 y => ?_⟩
    obtain ⟨w2, x2, r2, rfl, v2⟩ := hy x H2 y
    rw [List.drop_eq_getElem_cons hi] at h'
    refine hg x _ σ' ρ' w2 μ' _ v2 (e'.ext x2) r2 (post_stm (PostS.ext x2 h') fun ρ3 σ3 w3 μ3 e3 r3 q3 h3 => ?_)
    refine hb _ σ3 ρ3 w3 μ3 q3 r3 (turn_post h3 fun ρ4 μ4 σ4 w4 e4 r4 q4 h4 => ?_)
    exact ⟨m - 1, by omega, by omega, w4, ρ4, μ4, rfl, x'.trans (x2.trans (e3.trans e4)), q4, r4, h4⟩
  · have : i = items.length := by omega
    subst this
    rw [List.drop_of_length_le (Nat.le_refl _)] at h'
    exact .inl ⟨hs, h' σ' w' .refl r' e'⟩
theorem rs_while {tc : TT} {fc : FT} (n : Nat) (hc : RT K CT E tc fc) (hb : RS K CT E t f) : RS K CT E (tWhile tc t) (whS fc f n) := by
  intro D σ ρ w μ e r h
  refine ⟨fun m σ' H' => ∃ w' ρ' μ', w'.H = H' ∧ EnvR K CT w' σ' ρ' ∧ RelH K CT w' μ' ∧ PostS K CT w' D E (whS fc f m ρ' μ'), ⟨n, w, ρ, μ, rfl, e, r, h⟩, ?_⟩
  rintro m σ' H' ⟨w', ρ', μ', rfl, e', r', h'⟩
  cases m with
  | zero => exact h'.elim
  | succ m =>
    refine hc σ' ρ' w' μ' _ e' r' (post_stm h' fun x v w1 μ1 e1 r1 q1 h1 => ?_)
    subst q1
    cases v with
    | true =>
      rw [if_pos rfl] at h1 ⊢
      refine ⟨_, fun _ _ z => z, ?_⟩
      refine hb _ σ' ρ' w1 μ1 (e'.ext e1) r1 (turn_post h1 fun ρ4 μ4 σ4 w4 e4 r4 q4 h4 => ?_)
      exact ⟨m, Nat.lt_succ_self m, w4, ρ4, μ4, rfl, q4, r4, h4⟩
    | false => exact h1 σ' w1 .refl r1 (e'.ext e1)
end
end P

set_option Elab.async false
set_option linter.all false
set_option maxRecDepth 100000
set_option maxHeartbeats 4000000
/-! Iterators, comprehensions, calls, fields. -/
namespace P
open PySem PySem.Spec L2 G
section
variable {K : PySem.W.Frag} {CT : Str → Addr} {E : XK} {ta tb tc te : TE} {fa fb fc fe : FE} {tt tu : TT} {ft fu : FT} {i : Nat}
/-! ### iterators -/
def itSeqM (fe : FE) : FA := fun ρ μ => (fe ρ μ).bind fun x μ1 => match x with
  | .v (.lst ps) => .ok (ps.map EV.v) μ1
  | .v (.frl ps) => .ok (ps.map EV.v) μ1
  | _ => .no
def itTupM (fe : FE) : FA := fun ρ μ => (fe ρ μ).bind fun x μ1 => match x with
  | .v (.tup ps) => .ok (ps.map EV.v) μ1
  | _ => .no
def intsFrom (lo : Int) : Nat → List EV
  | 0 => []
  | n + 1 => .v (.int lo) :: intsFrom (lo + 1) n
def rng1M (fa : FA) : FA := fun ρ μ => (fa ρ μ).bind fun xs μ1 => match xs with
  | [.v (.int j)] => if -(2 ^ 62) ≤ j ∧ j < 2 ^ 62 then .ok (intsFrom 0 j.toNat) μ1 else .no
  | _ => .no
def rng2M (fa : FA) : FA := fun ρ μ => (fa ρ μ).bind fun xs μ1 => match xs with
  | [.v (.int i), .v (.int j)] => if -(2 ^ 62) ≤ i ∧ i < 2 ^ 62 ∧ -(2 ^ 62) ≤ j ∧ j < 2 ^ 62 then .ok (intsFrom i (j - i).toNat) μ1 else .no
  | _ => .no
theorem intsFrom_length (lo : Int) (n : Nat) : (intsFrom lo n).length = n := by
  induction n generalizing lo with
  | zero => rfl
  | succ n ih => simp [intsFrom, ih]
theorem intsFrom_get (lo : Int) (n i : Nat) (e : EV) (h : (intsFrom lo n)[i]? = some e) : i < n ∧ e = .v (.int (lo + i)) := by
  induction n generalizing lo i with
  | zero => simp [intsFrom] at h
  | succ n ih =>
    cases i with
    | zero => simp [intsFrom] at h; subst h; exact ⟨Nat.succ_pos n, by simp⟩
    | succ i =>
      simp [intsFrom] at h
      obtain ⟨h1, h2⟩ := ih (lo + 1) i h
      refine ⟨by omega, ?_⟩
      rw [h2]
      congr 2
      omega
theorem rit_of {w : Wd} {J : It} {vs : List V} {ps : List PV} (hr : Reps K CT w.Hs vs ps)
    (hs : ∀ H', Same w.Hs H' → J.stop vs.length H') (hg : ∀ (i : Nat) (x : V) H', Same w.Hs H' → vs[i]? = some x → J.go i H' ∧ ∀ y H2, J.yld i H' y H2 → H2 = H' ∧ y = x) : RIt K CT w J (ps.map EV.v) := by
  intro w' μ' x' r'
  have s : Same w.Hs w'.H := fun a o h => r'.s a o (x'.s a o h)
  refine ⟨by rw [List.length_map, ← hr.length]; exact hs _ s, fun i e he => ?_⟩
  rw [List.getElem?_map] at he
  cases hp : ps[i]? with
  | none => rw [hp] at he; cases he
  | some p =>
    rw [hp] at he
    cases he
    obtain ⟨v, h1, h2⟩ := hr.get hp
    obtain ⟨g1, g2⟩ := hg i v _ s h1
    refine ⟨g1, fun y H2 hy => ?_⟩
    obtain ⟨rfl, rfl⟩ := g2 y H2 hy
    exact ⟨w', .refl, r', rfl, .v (h2.same x'.s)⟩
theorem rit_list {w : Wd} {a : Addr} {vs : List V} {ps : List PV} (hq : SqL K w.Hs a vs) (hr : Reps K CT w.Hs vs ps) : RIt K CT w (Itl K a) (ps.map EV.v) :=
  rit_of hr (fun H' s => ⟨vs, s.seq hq, Nat.le_refl _⟩) fun i x H' s hx => ⟨⟨vs, x, s.seq hq, hx⟩, fun y H2 ⟨e, hy⟩ => ⟨e, by have := hy vs (e ▸ s.seq hq); rw [hx] at this; exact (Option.some.inj this).symm⟩⟩
theorem rit_tup {w : Wd} {a : Addr} {vs : List V} {ps : List PV} (hq : SqT K w.Hs a vs) (hr : Reps K CT w.Hs vs ps) : RIt K CT w (Itt K a) (ps.map EV.v) :=
  rit_of hr (fun H' s => ⟨vs, sqT_same s hq, Nat.le_refl _⟩) fun i x H' s hx => ⟨⟨vs, x, sqT_same s hq, hx⟩, fun y H2 ⟨e, hy⟩ => ⟨e, by have := hy vs (e ▸ sqT_same s hq); rw [hx] at this; exact (Option.some.inj this).symm⟩⟩
theorem rit_rng {w : Wd} {lo : Int} {n : Nat} : RIt K CT w (Itr lo n) (intsFrom lo n) := by
  intro w' μ' x' r'
  refine ⟨by rw [intsFrom_length]; exact Nat.le_refl _, fun i e he => ?_⟩
  obtain ⟨h1, rfl⟩ := intsFrom_get lo n i e he
  refine ⟨h1, fun y H2 hy => ?_⟩
  obtain ⟨rfl, rfl⟩ := hy
  exact ⟨w', .refl, r', rfl, .v (.int _)⟩
theorem ri_seq (he : RE K CT E te fe) : RI K CT E (iList K te) (itSeqM fe) := by
  intro σ ρ w μ Q e r h
  refine he σ ρ w μ _ e r (post_bind h fun x v w1 μ1 e1 r1 q1 h1 => ?_)
  split at h1
  · cases q1 with
    | v q1 => cases q1 with
      | lst hq hr => exact ⟨_, rfl, ⟨_, .of (r1.s _ _ hq)⟩, h1 _ w1 .refl r1 (rit_list (.of hq) hr)⟩
  · cases q1 with
    | v q1 => cases q1 with
      | frl hq hr => exact ⟨_, rfl, ⟨_, r1.s.seq hq⟩, h1 _ w1 .refl r1 (rit_list hq hr)⟩
  · exact h1.elim
theorem ri_tup (he : RE K CT E te fe) : RI K CT E (iTup K te) (itTupM fe) := by
  intro σ ρ w μ Q e r h
  refine he σ ρ w μ _ e r (post_bind h fun x v w1 μ1 e1 r1 q1 h1 => ?_)
  split at h1
  · cases q1 with
    | v q1 => cases q1 with
      | tup hq hr => exact ⟨_, rfl, ⟨_, sqT_same r1.s hq⟩, h1 _ w1 .refl r1 (rit_tup hq hr)⟩
  · exact h1.elim
theorem ri_rng1 {t : TA} {f : FA} (ha : RA K CT E t f) : RI K CT E (iRng1 t) (rng1M f) := by
  intro σ ρ w μ Q e r h
  refine ha σ ρ w μ _ e r (post_bind h fun xs vs w1 μ1 e1 r1 q1 h1 => ?_)
  split at h1
  · split at h1
    · rename_i hb
      cases q1 with
      | cons a q1 => cases q1 with
        | nil => cases a with
          | v a => cases a with
            | int _ => exact ⟨_, rfl, hb.1, hb.2, h1 _ w1 .refl r1 rit_rng⟩
    · exact h1.elim
  · exact h1.elim
theorem ri_rng2 {t : TA} {f : FA} (ha : RA K CT E t f) : RI K CT E (iRng2 t) (rng2M f) := by
  intro σ ρ w μ Q e r h
  refine ha σ ρ w μ _ e r (post_bind h fun xs vs w1 μ1 e1 r1 q1 h1 => ?_)
  split at h1
  · split at h1
    · rename_i hb
      cases q1 with
      | cons a q1 => cases q1 with
        | cons b q1 => cases q1 with
          | nil => cases a with
            | v a => cases a with
              | int j => cases b with
                | v b => cases b with
                  | int j => exact ⟨_, _, rfl, hb, h1 _ w1 .refl r1 rit_rng⟩
    · exact h1.elim
  · exact h1.elim
/-! ### comprehensions -/
/-- a target of a comprehension: it stores its own names only -/
def RGo (K : PySem.W.Frag) (CT : Str → Addr) (E : XK) (os : List Nat) (g : TG) (f : FG) : Prop := ∀ (v : V) (e : EV) (σ : L2.St) (ρ : Env) (w : Wd) (μ : Sto) (Q : L2.St → Hp → Prop), EVRep K CT w v e → EnvR K CT w σ ρ → RelH K CT w μ →
  Post K CT (fun w' σ' ρ' => EnvR K CT w' σ' ρ' ∧ wipe σ' os = wipe σ os) w Q E (f e ρ μ) → g v σ w.H Q
def RGos (K : PySem.W.Frag) (CT : Str → Addr) (E : XK) (os : List Nat) (g : TGs) (f : List EV → Env → Sto → Ro Env) : Prop := ∀ (v : List V) (e : List EV) (σ : L2.St) (ρ : Env) (w : Wd) (μ : Sto) (Q : L2.St → Hp → Prop), EVReps K CT w v e → EnvR K CT w σ ρ → RelH K CT w μ →
  Post K CT (fun w' σ' ρ' => EnvR K CT w' σ' ρ' ∧ wipe σ' os = wipe σ os) w Q E (f e ρ μ) → g v σ w.H Q
theorem wipe_set {σ : L2.St} {x : Option V} {i : Nat} : ∀ {os : List Nat}, i ∈ os → wipe (σ.set i x) os = wipe σ os
  | [], h => by cases h
  | o :: os, h => by
    unfold wipe
    by_cases e : i ∈ os
    · rw [wipe_set e]
    · have : i = o := (List.mem_cons.mp h).resolve_right e
      subst this
      have hz : ∀ (os : List Nat) (σ : L2.St), wipe (σ.set i x) os = (wipe σ os).set i x ∨ wipe (σ.set i x) os = wipe σ os := by
        intro os
        induction os with
        | nil => intro σ; exact .inl rfl
        | cons p os ih =>
          intro σ
          unfold wipe
          rcases ih σ with h | h
          · rw [h]
            by_cases e : i = p
            · subst e; right; rw [List.set_set]
            · left; rw [List.set_comm _ _ e]
          · rw [h]; right; rfl
      rcases hz os σ with h | h
      · rw [h, List.set_set]
      · rw [h]
theorem wipe_set2 (σ : L2.St) (x : Option V) (i : Nat) (os : List Nat) : wipe (σ.set i x) os = (wipe σ os).set i x ∨ i ∈ os := by
  induction os generalizing σ with
  | nil => exact .inl rfl
  | cons p os ih =>
    by_cases e : i = p
    · exact .inr (by rw [e]; exact List.mem_cons_self)
    · rcases ih σ with h | h
      · left
        unfold wipe
        rw [h, List.set_comm _ _ e]
      · exact .inr (List.mem_cons_of_mem _ h)
theorem wipe_wipe (σ : L2.St) (os : List Nat) : wipe (wipe σ os) os = wipe σ os := by
  have key : ∀ (ps : List Nat) (σ : L2.St), (∀ p ∈ ps, p ∈ os) → wipe (wipe σ ps) os = wipe σ os := by
    intro ps
    induction ps with
    | nil => intro σ _; rfl
    | cons p ps ih =>
      intro σ h
      have h1 : p ∈ os := h p List.mem_cons_self
      show wipe ((wipe σ ps).set p none) os = wipe σ os
      rw [wipe_set h1]
      exact ih σ fun q hq => h q (List.mem_cons_of_mem _ hq)
  exact key os σ fun _ h => h
theorem rgo_name {os : List Nat} (h : i ∈ os) : RGo K CT E os (gName i) (nameG i) := fun v x σ ρ w μ Q q e r hq => hq _ w .refl r ⟨e.set i q, wipe_set h⟩
theorem rgo_nil {os : List Nat} : RGos K CT E os gNil nilG := by
  intro vs es σ ρ w μ Q q e r h
  cases q with
  | nil => exact ⟨rfl, h σ w .refl r ⟨e, rfl⟩⟩
  | cons _ _ => exact h.elim
theorem rgo_cons {os : List Nat} {tg : TG} {fg : FG} {tgs : TGs} {fgs : List EV → Env → Sto → Ro Env} (h1 : RGo K CT E os tg fg) (h2 : RGos K CT E os tgs fgs) : RGos K CT E os (gCons tg tgs) (consG fg fgs) := by
  intro vs es σ ρ w μ Q q e r h
  cases q with
  | nil => exact h.elim
  | cons q1 q2 =>
    refine ⟨_, _, rfl, h1 _ _ σ ρ w μ _ q1 e r (post_bind h fun ρ1 σ1 w1 μ1 e1 r1 s1 h3 => ?_)⟩
    refine h2 _ _ σ1 ρ1 w1 μ1 Q (q2.ext e1) s1.1 r1 ?_
    rw [s1.2]
    exact h3
theorem rgo_tup {os : List Nat} {n : Nat} {tgs : TGs} {fgs : List EV → Env → Sto → Ro Env} (h1 : RGos K CT E os tgs fgs) : RGo K CT E os (gTup K n tgs) (tupG n fgs) := by
  intro v x σ ρ w μ Q q e r h
  unfold tupG at h
  split at h
  · split at h
    · rename_i ps hl
      cases q with
      | v q =>
        cases q with
        | tup hs hr =>
          exact ⟨_, _, rfl, sqT_same r.s hs, by rw [hr.length]; exact hl, h1 _ _ σ ρ w μ Q (.of hr) e r h⟩
    · exact h.elim
  · exact h.elim
def wipeR (ρ : Env) : List Nat → Env
  | [] => ρ
  | v :: vs => (wipeR ρ vs).set v none
theorem EnvR.wipe {w : Wd} {σ : L2.St} {ρ : Env} (h : EnvR K CT w σ ρ) : ∀ vs, EnvR K CT w (L2.wipe σ vs) (wipeR ρ vs)
  | [] => h
  | v :: vs => by
    have ih := EnvR.wipe h vs
    refine ⟨by unfold L2.wipe wipeR; rw [List.length_set, List.length_set]; exact ih.len, fun i e q => ?_⟩
    unfold wipeR at q
    rw [List.getElem?_set] at q
    by_cases hv : v = i
    · subst hv
      rw [if_pos rfl] at q
      split at q <;> cases q
    · rw [if_neg hv] at q
      obtain ⟨x, h1, h2⟩ := ih.get i e q
      exact ⟨x, by unfold L2.wipe; rw [List.getElem?_set, if_neg hv]; exact h1, h2⟩
theorem post_at {α β γ δ : Type} {R : Wd → β → α → Prop} {R' : Wd → δ → γ → Prop} {w w' : Wd} {Q : β → Hp → Prop} {Q' : δ → Hp → Prop} {m : Ro α} {g : α → Sto → Ro γ} (x : Ext w w') (h : Post K CT R' w Q' E (m.bind g))
    (k : ∀ a b w2 μ2, Ext w' w2 → RelH K CT w2 μ2 → R w2 b a → Post K CT R' w Q' E (g a μ2) → Q b w2.H) : Post K CT R w' Q E m := by
  cases m with
  | ok r μ => exact fun b w2 x2 r2 q => k r b w2 μ x2 r2 q h
  | exc c ns vs μ => exact fun w2 x2 r2 => h w2 (x.trans x2) r2
  | no => exact h
/-- a thing that nobody of the world knows, laid or changed -/
theorem Ext.hid {w w' : Wd} {a : Addr} {o : HO} (x : Ext w w') (ha : w.H a = none) : Ext w ⟨w'.α, w'.Hs, upd w'.H a o⟩ where
  s := x.s
  al := x.al
  fr := fun b u h n => by show upd w'.H a o b = _; rw [upd_ne (ne_of_none h ha)]; exact x.fr b u h n
  na := x.na
  ns := x.ns
  nd := fun b h => by
    by_cases e : b = a
    · subst e; exact ha
    · rw [show (⟨w'.α, w'.Hs, upd w'.H a o⟩ : Wd).H b = w'.H b from upd_ne e] at h
      exact x.nd b h
theorem CellOk.same {w w' : Wd} {a : Addr} {x : Cell} (h1 : w'.Hs = w.Hs) (h2 : w'.α = w.α) (h3 : w'.H a = w.H a) (h : CellOk K CT w a x) : CellOk K CT w' a x := by
  obtain ⟨α, Hs, H⟩ := w
  obtain ⟨α', Hs', H'⟩ := w'
  simp only at h1 h2 h3
  subst h1 h2
  have lem : ∀ {vs : List V} {es : List EV}, EVReps K CT ⟨α', Hs', H⟩ vs es → EVReps K CT ⟨α', Hs', H'⟩ vs es := by
    intro vs es h
    induction h with
    | nil => exact .nil
    | cons a _ ih =>
      refine .cons ?_ ih
      cases a with
      | v a => exact .v a
      | c a => exact .c a
  cases x with
  | dead => trivial
  | lst xs => obtain ⟨n, vs, p, q⟩ := h; exact ⟨n, vs, h3.trans p, q⟩
  | dct ks xs => obtain ⟨n, vs, p, q⟩ := h; exact ⟨n, vs, h3.trans p, q⟩
  | ins c ns xs => obtain ⟨n, dx, vs, p, l, q⟩ := h; exact ⟨n, dx, vs, h3.trans p, l, lem q⟩
theorem RelH.hid {w : Wd} {μ : Sto} {a : Addr} {o : HO} (r : RelH K CT w μ) (h1 : a ∉ w.α) (h2 : w.Hs a = none) : RelH K CT ⟨w.α, w.Hs, upd w.H a o⟩ μ where
  s := fun b u h => by show upd w.H a o b = _; rw [upd_ne (ne_of_none h h2)]; exact r.s b u h
  len := r.len
  nd := r.nd
  cell := fun k x b e1 e2 => CellOk.same (w := w) (w' := ⟨w.α, w.Hs, upd w.H a o⟩) rfl rfl (upd_ne fun z => h1 (by rw [← z]; exact List.mem_of_getElem? e2)) (r.cell k x b e1 e2)
  al := fun b h => by show upd w.H a o b ≠ none; rw [upd_ne fun z => h1 (by rw [← z]; exact h)]; exact r.al b h
/-- a thing that nobody knew becomes a value -/
theorem Ext.show_ {w w' : Wd} {a : Addr} {o : HO} (x : Ext w w') (ha : w.H a = none) (hs : w'.Hs a = none) : Ext w ⟨w'.α, upd w'.Hs a o, w'.H⟩ where
  s := fun b u h => by
    have := x.s b u h
    show upd w'.Hs a o b = _
    rw [upd_ne (ne_of_none this hs)]
    exact this
  al := x.al
  fr := x.fr
  na := x.na
  ns := fun b u h => by
    by_cases e : b = a
    · subst e; exact .inr (.inl ha)
    · rw [show (⟨w'.α, upd w'.Hs a o, w'.H⟩ : Wd).Hs b = w'.Hs b from upd_ne e] at h
      exact x.ns b u h
  nd := x.nd
theorem RelH.show_ {w : Wd} {μ : Sto} {a : Addr} {o : HO} (r : RelH K CT w μ) (h1 : a ∉ w.α) (h2 : w.Hs a = none) (h3 : w.H a = some o) : RelH K CT ⟨w.α, upd w.Hs a o, w.H⟩ μ where
  s := fun b u h => by
    by_cases e : b = a
    · subst e; rw [show (⟨w.α, upd w.Hs b o, w.H⟩ : Wd).Hs b = some o from upd_same] at h; cases h; exact h3
    · rw [show (⟨w.α, upd w.Hs a o, w.H⟩ : Wd).Hs b = w.Hs b from upd_ne e] at h; exact r.s b u h
  len := r.len
  nd := r.nd
  cell := fun k x b e1 e2 => by
    have ne : b ≠ a := fun z => h1 (by rw [← z]; exact List.mem_of_getElem? e2)
    have same : Same w.Hs (upd w.Hs a o) := fun c u h => by rw [upd_ne (ne_of_none h h2)]; exact h
    have c := r.cell k x b e1 e2
    have lem : ∀ {vs : List V} {es : List EV}, EVReps K CT w vs es → EVReps K CT ⟨w.α, upd w.Hs a o, w.H⟩ vs es := by
      intro vs es h
      induction h with
      | nil => exact .nil
      | cons a _ ih =>
        refine .cons ?_ ih
        cases a with
        | v a => exact .v (a.same same)
        | c a => exact .c a
    cases x with
    | dead => trivial
    | lst xs => obtain ⟨n, vs, p, q⟩ := c; exact ⟨by show upd w.Hs a o b = none; rw [upd_ne ne]; exact n, vs, p, q.same same⟩
    | dct ks xs => obtain ⟨n, vs, p, l, q⟩ := c; exact ⟨by show upd w.Hs a o b = none; rw [upd_ne ne]; exact n, vs, p, l, q.same same⟩
    | ins c' ns xs => obtain ⟨n, dx, vs, p, l, q⟩ := c; exact ⟨by show upd w.Hs a o b = none; rw [upd_ne ne]; exact n, dx, vs, p, l, lem q⟩
  al := r.al
theorem re_lc {wi : TI} {fi : FA} {g : TG} {fg : FG} {os : List Nat} (hi : RI K CT E wi fi) (hg : RGo K CT E os g fg) (ht : RT K CT E tt ft) (he : RE K CT E te fe) :
    RE K CT E (tLc wi g tt te os) (fun ρ μ => (fi ρ μ).bind fun xs μ1 => (lcGo fg ft fe (wipeR ρ os) xs [] μ1).bind fun ps μ2 => .ok (.v (.lst ps)) μ2) := by
  intro σ ρ w μ Q e r h
  refine hi σ ρ w μ _ e r (post_bind h fun items J w1 μ1 e1 r1 q1 h1 => ?_)
  intro D hD
  have eW := (e.ext e1).wipe os
  have x0 : Ext w1 ⟨w1.α, w1.Hs, upd w1.H D (.lst [])⟩ := Ext.hid .refl hD
  refine ⟨fun i m H' => m + i = items.length ∧ ∃ w' μ' acc vs, w'.H = H' ∧ Ext w1 w' ∧ RelH K CT w' μ' ∧ w'.H D = some (.lst vs) ∧ D ∉ w'.α ∧ w'.Hs D = none ∧ Reps K CT w'.Hs vs acc ∧
      Post K CT (EVRep K CT) w1 Q E ((lcGo fg ft fe (wipeR ρ os) (items.drop i) acc μ').bind fun ps μ2 => .ok (.v (.lst ps)) μ2),
    ⟨items.length, rfl, ⟨w1.α, w1.Hs, upd w1.H D (.lst [])⟩, μ1, [], [], rfl, x0, r1.hid (r1.notin hD) (r1.free hD), upd_same, r1.notin hD, r1.free hD, .nil, h1⟩, ?_⟩
  rintro i m H' ⟨hm, w', μ', acc, vs, rfl, x', r', hd, hn, hs, hr, h'⟩
  obtain ⟨hst, hgo⟩ := q1 w' μ' x' r'
  by_cases hlt : i < items.length
  · obtain ⟨hgo1, hy⟩ := hgo i items[i] (by simp [hlt])
    refine .inr ⟨hgo1, _, fun _ z => z, fun x H2 y => ?_⟩
    obtain ⟨w2, x2, r2, rfl, v2⟩ := hy x H2 y
    rw [List.drop_eq_getElem_cons hlt] at h'
    have keep : ∀ {wa : Wd}, Ext w' wa → wa.H D = some (.lst vs) ∧ D ∉ wa.α ∧ wa.Hs D = none := fun {wa} xa => by
      refine ⟨xa.fr D _ hd hn, fun z => (xa.na D z).elim hn (fun z => by rw [hd] at z; cases z), ?_⟩
      cases q : wa.Hs D with
      | none => rfl
      | some o =>
        rcases xa.ns D o q with z | z | z
        · rw [hs] at z; cases z
        · rw [hd] at z; cases z
        · exact (hn z).elim
    unfold lcGo at h'
    have h2 : Post K CT (EVRep K CT) w1 Q E ((fg items[i] (wipeR ρ os) μ').bind fun ρ1 μ1 => ((ft ρ1 μ1).bind fun c μ2 => if c then (fe ρ1 μ2).bind fun y μ3 => (match y with
      | .v p => if acc.length < sizeLine then lcGo fg ft fe (wipeR ρ os) (items.drop (i + 1)) (acc ++ [p]) μ3 else .no
      | .c _ => .no)
    else lcGo fg ft fe (wipeR ρ os) (items.drop (i + 1)) acc μ2).bind fun ps μ2 => .ok (.v (.lst ps)) μ2) := by
      revert h'
      cases fg items[i] (wipeR ρ os) μ' <;> exact fun h => h
    refine hg x _ _ _ w2 μ' _ v2 (eW.ext (x'.trans x2)) r2 (post_at (x'.trans x2) h2 fun ρ3 σ3 w3 μ3 e3 r3 q3 h3 => ?_)
    refine ⟨q3.2.trans (wipe_wipe σ os), ?_⟩
    have h4 : Post K CT (EVRep K CT) w1 Q E ((ft ρ3 μ3).bind fun c μ2 => (if c then (fe ρ3 μ2).bind fun y μ3 => (match y with
      | .v p => if acc.length < sizeLine then lcGo fg ft fe (wipeR ρ os) (items.drop (i + 1)) (acc ++ [p]) μ3 else .no
      | .c _ => .no)
    else lcGo fg ft fe (wipeR ρ os) (items.drop (i + 1)) acc μ2).bind fun ps μ2 => .ok (.v (.lst ps)) μ2) := by
      revert h3
      cases ft ρ3 μ3 <;> exact fun h => h
    refine ht _ _ w3 μ3 _ q3.1 r3 (post_at (x'.trans (x2.trans e3)) h4 fun c b w4 μ4 e4 r4 q4 h5 => ?_)
    subst q4
    have x4 := x'.trans (x2.trans (e3.trans e4))
    cases b with
    | false =>
      obtain ⟨k1, k2, k3⟩ := keep (x2.trans (e3.trans e4))
      exact ⟨m - 1, by omega, by omega, w4, μ4, acc, vs, rfl, x4, r4, k1, k2, k3, hr.same (x2.trans (e3.trans e4)).s, h5⟩
    | true =>
      rw [if_pos rfl] at h5 ⊢
      have h6 : Post K CT (EVRep K CT) w1 Q E ((fe ρ3 μ4).bind fun y μ3 => (match y with
        | .v p => if acc.length < sizeLine then lcGo fg ft fe (wipeR ρ os) (items.drop (i + 1)) (acc ++ [p]) μ3 else .no
        | .c _ => .no).bind fun ps μ2 => .ok (.v (.lst ps)) μ2) := by
        revert h5
        cases fe ρ3 μ4 <;> exact fun h => h
      refine he _ _ w4 μ4 _ (q3.1.ext e4) r4 (post_at x4 h6 fun y u w5 μ5 e5 r5 q5 h7 => ?_)
      obtain ⟨k1, k2, k3⟩ := keep (x2.trans (e3.trans (e4.trans e5)))
      cases q5 with
      | v q5 =>
        rename_i p
        have h8 : Post K CT (EVRep K CT) w1 Q E ((if acc.length < sizeLine then lcGo fg ft fe (wipeR ρ os) (items.drop (i + 1)) (acc ++ [p]) μ5 else .no).bind fun ps μ2 => .ok (.v (.lst ps)) μ2) := h7
        by_cases hl : acc.length < sizeLine
        · rw [if_pos hl] at h8
          refine ⟨vs, k1, by rw [hr.length]; exact hl, m - 1, by omega, by omega, ⟨w5.α, w5.Hs, upd w5.H D (.lst (vs ++ [u]))⟩, μ5, acc ++ [p], vs ++ [u], rfl, Ext.hid (x4.trans e5) hD, r5.hid k2 k3, upd_same, k2, k3, ?_, h8⟩
          exact (hr.same (x2.trans (e3.trans (e4.trans e5))).s).append (.cons q5 .nil)
        · rw [if_neg hl] at h8
          exact h8.elim
      | c _ => exact h7.elim
  · have : i = items.length := by omega
    subst this
    rw [List.drop_of_length_le (Nat.le_refl _)] at h'
    refine .inl ⟨hst, ?_⟩
    have h2 : Post K CT (EVRep K CT) w1 Q E (.ok (.v (.lst acc)) μ') := h'
    exact h2 (.ref D) ⟨w'.α, upd w'.Hs D (.lst vs), w'.H⟩ (Ext.show_ x' hD hs) (r'.show_ hn hs hd) (.v (.lst upd_same (hr.same fun c u h => by show upd w'.Hs D (.lst vs) c = _; rw [upd_ne (ne_of_none h hs)]; exact h)))
end
end P

set_option Elab.async false
set_option linter.all false
set_option maxRecDepth 100000
set_option maxHeartbeats 4000000
/-! Calls, fields, made things. -/
namespace P
open PySem PySem.Spec L2 G
abbrev FC := List EV → Sto → Ro EV
/-- what a def promises: what its function tells -/
def spOf (K : PySem.W.Frag) (CT : Str → Addr) (cl : FC) (n : Nat) : Sp := fun vs H Q E => ∃ w μ args, w.H = H ∧ RelH K CT w μ ∧ EVReps K CT w vs args ∧ vs.length = n ∧ Post K CT (EVRep K CT) w Q E (cl args μ)
theorem spOf_len {K : PySem.W.Frag} {CT : Str → Addr} {cl : FC} {n : Nat} : Len (spOf K CT cl n) n := by
  rintro vs H Q E ⟨w, μ, args, _, _, _, h, _⟩
  exact h
/-- the function that a body tells -/
def So.fin (m : So) : Ro EV := match m with
  | .nx _ μ => .ok (.v .non) μ
  | .rt r μ => .ok r μ
  | .exc c ns vs μ => .exc c ns vs μ
  | _ => .no
@[simp] theorem fin_nx {ρ : Env} {μ : Sto} : (So.nx ρ μ).fin = .ok (.v .non) μ := rfl
@[simp] theorem fin_rt {r : EV} {μ : Sto} : (So.rt r μ).fin = .ok r μ := rfl
def startE (n : Nat) (xs : List EV) : Env := xs.map some ++ List.replicate (n - xs.length) none
def bodyM (n : Nat) (f : FS) : FC := fun xs μ => (f (startE n xs) μ).fin
section
variable {K : PySem.W.Frag} {CT : Str → Addr} {E : XK} {ta tb tc te : TE} {fa fb fc fe : FE} {tt tu : TT} {ft fu : FT} {i : Nat}
theorem startR {w : Wd} {N : List Str} {vs : List V} {xs : List EV} (h : EVReps K CT w vs xs) : EnvR K CT w (L2.start N vs) (startE N.length xs) := by
  have hl := h.length
  refine ⟨by unfold L2.start startE; simp [hl], fun i e q => ?_⟩
  unfold startE at q
  unfold L2.start
  by_cases hi : i < xs.length
  · rw [List.getElem?_append_left (by simpa using hi)] at q
    rw [List.getElem?_append_left (by simpa [hl] using hi)]
    rw [List.getElem?_map] at q ⊢
    cases hx : xs[i]? with
    | none => rw [hx] at q; cases q
    | some x =>
      rw [hx] at q
      cases q
      obtain ⟨v, h1, h2⟩ := h.get hx
      exact ⟨v, by rw [h1]; rfl, h2⟩
  · rw [List.getElem?_append_right (by simpa using hi)] at q
    have := List.mem_replicate.mp (List.mem_of_getElem? q)
    cases this.2
/-- THE RULE for a def: from its derivation and its function -/
theorem body_ok {t : TS} {f : FS} {N : List Str} {n : Nat} {vs : List V} {H : Hp} {Q : VK} (h : RS K CT E t f) (hs : spOf K CT (bodyM N.length f) n vs H Q E) : t { nx := fun _ H' => Q .non H', rt := Q } (L2.start N vs) H := by
  obtain ⟨w, μ, args, rfl, r, q, hl, hp⟩ := hs
  refine h _ _ (startE N.length args) w μ (startR q) r ?_
  unfold bodyM at hp
  revert hp
  cases f (startE N.length args) μ with
  | nx ρ' μ' => exact fun hp σ w' x r' e => hp .non w' x r' (.v .non)
  | rt r μ' => exact fun hp => hp
  | exc c ns vs μ' => exact fun hp => hp
  | bk ρ' μ' => exact fun hp => hp.elim
  | ct ρ' μ' => exact fun hp => hp.elim
  | no => exact fun hp => hp
/-! ### calls -/
/-- with the whole store -/
def callW (cl : FC) (fa : FA) : FE := fun ρ μ => (fa ρ μ).bind fun xs μ1 => cl xs μ1
def callWn (cl : FC) (n : Nat) (xs : List EV) (μ : Sto) : Ro EV := if xs.length = n then cl xs μ else .no
theorem re_callW {t : TA} {f : FA} {cl : FC} {n : Nat} (ha : RA K CT E t f) : RE K CT E (tCall (spOf K CT cl n) [] E t) (fun ρ μ => (f ρ μ).bind fun xs μ1 => callWn cl n xs μ1) := by
  intro σ ρ w μ Q e r h
  refine ha σ ρ w μ _ e r (post_bind h fun xs vs w1 μ1 e1 r1 q1 h1 => ?_)
  unfold callWn at h1
  split at h1
  · rename_i hl
    rw [List.append_nil]
    exact ⟨w1, μ1, xs, rfl, r1, q1, by rw [q1.length]; exact hl, h1⟩
  · exact h1.elim
/-- a value alone -/
def pvOf : EV → Option PV
  | .v p => some p
  | .c _ => none
def flatC : Cell → Bool
  | .ins _ _ vs => vs.all fun e => (pvOf e).isSome
  | _ => true
/-- with what it is given alone: values; or a thing of the store, then values -/
def callS (cl : FC) (n : Nat) (xs : List EV) (μ : Sto) : Ro EV :=
  if xs.length = n then
    match pvs xs with
    | some _ => (match cl xs [] with
      | .ok (.v p) _ => .ok (.v p) μ
      | .exc c ns vs _ => .exc c ns vs μ
      | _ => .no)
    | none => (match xs with
      | .c k :: r => (match pvs r, μ[k]? with
        | some _, some x => if flatC x then (match cl (.c 0 :: r) [x] with
          | .ok (.v p) (y :: _) => if flatC y then .ok (.v p) (μ.set k y) else .no
          | .exc c ns vs (y :: _) => if flatC y then .exc c ns vs (μ.set k y) else .no
          | _ => .no) else .no
        | _, _ => .no)
      | _ => .no)
  else .no
theorem EVReps.vals {w w' : Wd} (hs : w'.Hs = w.Hs) : ∀ {vs : List V} {xs : List EV}, EVReps K CT w vs xs → (pvs xs).isSome = true → EVReps K CT w' vs xs
  | _, _, .nil, _ => .nil
  | _, _, .cons (.v h) t, e => by
    refine .cons (.v (by rw [hs]; exact h)) (t.vals hs ?_)
    simp only [pvs] at e
    cases q : pvs _ with
    | none => rw [q] at e; cases e
    | some _ => rfl
  | _, _, .cons (.c h) t, e => by simp [pvs] at e
/-- the world that a callee sees -/
theorem RelH.none {w : Wd} {μ : Sto} (r : RelH K CT w μ) : RelH K CT ⟨[], w.Hs, w.H⟩ [] :=
  ⟨r.s, rfl, List.nodup_nil, fun k x a h _ => by simp at h, fun a h => by cases h⟩
theorem Ext.back {w w2 : Wd} {l : List Addr} (hl : ∀ a ∈ l, a ∈ w.α) (x : Ext ⟨l, w.Hs, w.H⟩ w2) : Ext w ⟨w.α, w2.Hs, w2.H⟩ where
  s := x.s
  al := List.prefix_rfl
  fr := fun a o h n => x.fr a o h fun z => n (hl a z)
  na := fun _ h => .inl h
  ns := fun a o h => (x.ns a o h).elim .inl fun z => z.elim (fun z => .inr (.inl z)) fun z => .inr (.inr (hl a z))
  nd := x.nd
theorem CellOk.shift {w w' : Wd} {a : Addr} {x : Cell} (hf : flatC x = true) (h1 : w'.Hs = w.Hs) (h3 : w'.H a = w.H a) (h : CellOk K CT w a x) : CellOk K CT w' a x := by
  obtain ⟨α, Hs, H⟩ := w
  obtain ⟨α', Hs', H'⟩ := w'
  simp only at h1 h3
  subst h1
  cases x with
  | dead => trivial
  | lst xs => obtain ⟨n, vs, p, q⟩ := h; exact ⟨n, vs, h3.trans p, q⟩
  | dct ks xs => obtain ⟨n, vs, p, q⟩ := h; exact ⟨n, vs, h3.trans p, q⟩
  | ins c ns xs =>
    obtain ⟨n, dx, vs, p, l, q⟩ := h
    refine ⟨n, dx, vs, h3.trans p, l, ?_⟩
    have hf' : xs.all (fun e => (pvOf e).isSome) = true := hf
    clear p l
    induction q with
    | nil => exact .nil
    | cons a t ih =>
      rw [List.all_cons, Bool.and_eq_true] at hf'
      refine .cons ?_ (ih hf'.2 hf'.2)
      cases a with
      | v a => exact .v a
      | c a => cases hf'.1
/-- what is not the callee's stays -/
theorem stay {w w2 : Wd} {μ : Sto} {l : List Addr} (r : RelH K CT w μ) (x : Ext ⟨l, w.Hs, w.H⟩ w2) {k : Nat} {y : Cell} {a : Addr} (h1 : μ[k]? = some y) (h2 : w.α[k]? = some a) (hn : a ∉ l) : CellOk K CT ⟨w.α, w2.Hs, w2.H⟩ a y := by
  have ha : w.H a ≠ none := r.al a (List.mem_of_getElem? h2)
  have c := r.cell k y a h1 h2
  have xe : Ext ⟨l, w.Hs, w.H⟩ w2 := x
  have e2 : Ext ⟨w.α, w.Hs, w.H⟩ ⟨w.α, w2.Hs, w2.H⟩ → True := fun _ => trivial
  have same : Same w.Hs w2.Hs := x.s
  have hH : ∀ o, w.H a = some o → w2.H a = some o := fun o h => x.fr a o h hn
  have hs : w.Hs a = none → w2.Hs a = none := fun h => by
    cases q : w2.Hs a with
    | none => rfl
    | some o =>
      rcases x.ns a o q with z | z | z
      · rw [h] at z; cases z
      · exact (ha z).elim
      · exact (hn z).elim
  have lem : ∀ {vs : List V} {es : List EV}, EVReps K CT w vs es → EVReps K CT ⟨w.α, w2.Hs, w2.H⟩ vs es := by
    intro vs es h
    induction h with
    | nil => exact .nil
    | cons a _ ih =>
      refine .cons ?_ ih
      cases a with
      | v a => exact .v (a.same same)
      | c a => exact .c a
  cases y with
  | dead => trivial
  | lst xs => obtain ⟨n, vs, p, q⟩ := c; exact ⟨hs n, vs, hH _ p, q.same same⟩
  | dct ks xs => obtain ⟨n, vs, p, l, q⟩ := c; exact ⟨hs n, vs, hH _ p, l, q.same same⟩
  | ins c' ns xs => obtain ⟨n, dx, vs, p, l, q⟩ := c; exact ⟨hs n, dx, vs, hH _ p, l, lem q⟩
theorem back0 {w w2 : Wd} {μ μ2 : Sto} (r : RelH K CT w μ) (x : Ext ⟨[], w.Hs, w.H⟩ w2) (r2 : RelH K CT w2 μ2) : RelH K CT ⟨w.α, w2.Hs, w2.H⟩ μ where
  s := r2.s
  len := r.len
  nd := r.nd
  cell := fun k y a h1 h2 => stay r x h1 h2 (by simp)
  al := fun a h z => r.al a h (x.nd a z)
theorem back1 {w w2 : Wd} {μ μ2 : Sto} {k : Nat} {a : Addr} {y : Cell} (r : RelH K CT w μ) (ha : w.α[k]? = some a) (x : Ext ⟨[a], w.Hs, w.H⟩ w2) (r2 : RelH K CT w2 (y :: μ2)) (hf : flatC y = true) : RelH K CT ⟨w.α, w2.Hs, w2.H⟩ (μ.set k y) where
  s := r2.s
  len := by rw [List.length_set]; exact r.len
  nd := r.nd
  cell := fun j z b h1 h2 => by
    rw [List.getElem?_set] at h1
    by_cases e : k = j
    · subst e
      rw [if_pos rfl] at h1
      split at h1
      · cases h1
        have hab : a = b := by
          have : w.α[k]? = some b := h2
          rw [ha] at this
          exact Option.some.inj this
        subst hab
        have h0 : w2.α[0]? = some a := prefix_get x.al rfl
        exact CellOk.shift (w := w2) hf rfl rfl (r2.cell 0 y a rfl h0)
      · cases h1
    · rw [if_neg e] at h1
      refine stay r x h1 h2 fun z => e (nodup_get r.nd ha ?_)
      have := List.mem_singleton.mp z
      subst this
      exact h2
  al := fun b h z => r.al b h (x.nd b z)
theorem back1e {w w2 : Wd} {μ μ2 : Sto} {k : Nat} {a : Addr} {y : Cell} (r : RelH K CT w μ) (ha : w.α[k]? = some a) (x : Ext ⟨[a], w.Hs, w.H⟩ w2) (r2 : RelH K CT w2 (y :: μ2)) (hf : flatC y = true) : Ext w ⟨w.α, w2.Hs, w2.H⟩ :=
  Ext.back (fun b h => by rw [List.mem_singleton.mp h]; exact List.mem_of_getElem? ha) x
/-- what callS tells meets what spOf asks -/
theorem callS_sp {cl : FC} {n : Nat} {xs : List EV} {vs : List V} {w : Wd} {μ : Sto} {Q : VK} (r : RelH K CT w μ) (q : EVReps K CT w vs xs) (h : Post K CT (EVRep K CT) w Q E (callS cl n xs μ)) : spOf K CT cl n vs w.H Q E := by
  unfold callS at h
  split at h
  · rename_i hl
    split at h
    · rename_i ps hp
      refine ⟨⟨[], w.Hs, w.H⟩, [], xs, rfl, r.none, EVReps.vals (w := w) (w' := ⟨[], w.Hs, w.H⟩) rfl q (by rw [hp]; rfl), by rw [q.length]; exact hl, ?_⟩
      split at h
      · rename_i p μ2 hc
        rw [hc]
        intro b w2 x r2 qb
        have h' := h b ⟨w.α, w2.Hs, w2.H⟩ (Ext.back (fun a h => by cases h) x) (back0 r x r2) (by cases qb with | v qb => exact .v qb)
        exact h'
      · rename_i c ns vs' μ2 hc
        rw [hc]
        intro w2 x r2
        exact h ⟨w.α, w2.Hs, w2.H⟩ (Ext.back (fun a h => by cases h) x) (back0 r x r2)
      · exact h.elim
    · split at h
      · rename_i k rest hnone
        split at h
        · rename_i ps x hp hk
          split at h
          · rename_i hf
            cases q with
            | cons q1 q2 =>
              cases q1 with
              | c ha =>
                rename_i a
                have c0 := r.cell _ _ _ hk ha
                have r0 : RelH K CT ⟨[a], w.Hs, w.H⟩ [x] := ⟨r.s, rfl, by simp, fun j z b h1 h2 => by
                  cases j with
                  | zero =>
                    simp at h1 h2
                    subst h1 h2
                    exact CellOk.shift (w := w) hf rfl rfl c0
                  | succ j => simp at h1, fun b hb => by rw [List.mem_singleton.mp hb]; exact r.al a (List.mem_of_getElem? ha)⟩
                refine ⟨⟨[a], w.Hs, w.H⟩, [x], .c 0 :: rest, rfl, r0, .cons (.c rfl) (EVReps.vals (w := w) (w' := ⟨[a], w.Hs, w.H⟩) rfl q2 (by rw [hp]; rfl)), by rw [← hl, List.length_cons, List.length_cons, q2.length], ?_⟩
                split at h
                · rename_i p y μ2 hc
                  split at h
                  · rename_i hfy
                    rw [hc]
                    intro b w2 x2 r2 qb
                    exact h b ⟨w.α, w2.Hs, w2.H⟩ (back1e r ha x2 r2 hfy) (back1 r ha x2 r2 hfy) (by cases qb with | v qb => exact .v qb)
                  · exact h.elim
                · rename_i c ns vs' y μ2 hc
                  split at h
                  · rename_i hfy
                    rw [hc]
                    intro w2 x2 r2
                    exact h ⟨w.α, w2.Hs, w2.H⟩ (back1e r ha x2 r2 hfy) (back1 r ha x2 r2 hfy)
                  · exact h.elim
                · exact h.elim
          · exact h.elim
        · exact h.elim
      · exact h.elim
  · exact h.elim
def callM (cl : FC) (n : Nat) (fa : FA) : FE := fun ρ μ => (fa ρ μ).bind fun xs μ1 => callS cl n xs μ1
theorem re_call {t : TA} {f : FA} {cl : FC} {n : Nat} (ha : RA K CT E t f) : RE K CT E (tCall (spOf K CT cl n) [] E t) (callM cl n f) := by
  intro σ ρ w μ Q e r h
  refine ha σ ρ w μ _ e r (post_bind h fun xs vs w1 μ1 e1 r1 q1 h1 => ?_)
  rw [List.append_nil]
  exact callS_sp r1 q1 h1
/-! ### fields -/
/-- what a class's instances have -/
structure FldOk (K : PySem.W.Frag) (CT : Str → Addr) (cs : List Str) (f : Str) : Prop where
  ok : ∀ c ∈ cs, Cls K (CT c) ∧ NoAttr K (CT c) f
def fldE (cs : List Str) (f : Str) (x : EV) (μ : Sto) : Ro EV := match x with
  | .v (.ins c ns vs) => if cs.contains c then (match (ns.zip vs).lookup f with
    | some p => .ok (.v p) μ
    | none => .no) else .no
  | .c k => (match μ[k]? with
    | some (.ins c ns vs) => if cs.contains c then (match (ns.zip vs).lookup f with
      | some e => .ok e μ
      | none => .no) else .no
    | _ => .no)
  | _ => .no
def fldM (cs : List Str) (f : Str) (fe : FE) : FE := fun ρ μ => (fe ρ μ).bind fun x μ1 => fldE cs f x μ1
theorem Reps.look {H : Hp} {f : Str} {p : PV} : ∀ {ns : List Str} {vs : List V} {ps : List PV}, Reps K CT H vs ps → (ns.zip ps).lookup f = some p → ∃ v, (ns.zip vs).lookup f = some v ∧ Rep K CT H v p
  | [], _, _, _, e => by simp at e
  | _ :: _, _, _, .nil, e => by simp at e
  | n :: ns, _, _, .cons h t, e => by
    rw [List.zip_cons_cons, List.lookup_cons] at e ⊢
    cases hq : f == n with
    | true => rw [hq] at e; cases e; exact ⟨_, rfl, h⟩
    | false => rw [hq] at e; exact t.look e
theorem EVReps.look {w : Wd} {f : Str} {p : EV} : ∀ {ns : List Str} {vs : List V} {ps : List EV}, EVReps K CT w vs ps → (ns.zip ps).lookup f = some p → ∃ v, (ns.zip vs).lookup f = some v ∧ EVRep K CT w v p
  | [], _, _, _, e => by simp at e
  | _ :: _, _, _, .nil, e => by simp at e
  | n :: ns, _, _, .cons h t, e => by
    rw [List.zip_cons_cons, List.lookup_cons] at e ⊢
    cases hq : f == n with
    | true => rw [hq] at e; cases e; exact ⟨_, rfl, h⟩
    | false => rw [hq] at e; exact t.look e
theorem re_fld {f : Str} {cs : List Str} (F : FldOk K CT cs f) (he : RE K CT E te fe) : RE K CT E (tFld K te f) (fldM cs f fe) := by
  intro σ ρ w μ Q e r h
  refine he σ ρ w μ _ e r (post_bind h fun x v w1 μ1 e1 r1 q1 h1 => ?_)
  unfold fldE at h1
  split at h1
  · split at h1
    · rename_i hc
      split at h1
      · rename_i p hp
        obtain ⟨c1, c2⟩ := F.ok _ (by simpa using hc)
        cases q1 with
        | v q1 => cases q1 with
          | ins ha hl hr =>
            obtain ⟨u, hu, ru⟩ := hr.look hp
            exact ⟨_, _, _, _, u, rfl, r1.s _ _ ha, c1, c2, hu, h1 u w1 .refl r1 (.v ru)⟩
      · exact h1.elim
    · exact h1.elim
  · split at h1
    · rename_i hk
      split at h1
      · rename_i hc
        split at h1
        · rename_i p hp
          obtain ⟨c1, c2⟩ := F.ok _ (by simpa using hc)
          cases q1 with
          | c ha =>
            obtain ⟨_, dx, us, h2, hl, hr⟩ := r1.cell _ _ _ hk ha
            obtain ⟨u, hu, ru⟩ := hr.look hp
            exact ⟨_, _, _, _, u, rfl, h2, c1, c2, hu, h1 u w1 .refl r1 ru⟩
        · exact h1.elim
      · exact h1.elim
    · exact h1.elim
  · exact h1.elim
def putE (f : Str) (e : EV) : List Str → List EV → List Str × List EV
  | n :: ns, v :: vs => if f == n then (n :: ns, e :: vs) else let r := putE f e ns vs; (n :: r.1, v :: r.2)
  | _, _ => ([f], [e])
end
end P

set_option Elab.async false
set_option linter.all false
set_option maxRecDepth 100000
set_option maxHeartbeats 4000000
/-! Methods, made things, stored fields. -/
namespace P
open PySem PySem.Spec L2 G
section
variable {K : PySem.W.Frag} {CT : Str → Addr} {E : XK} {ta tb tc te to tv : TE} {fa fb fc fe fo fv : FE} {tt tu : TT} {ft fu : FT} {i : Nat}
/-- the class of a thing and the names that it has -/
def clsOf (x : EV) (μ : Sto) : Option (Str × List Str × Nat) := match x with
  | .v (.ins c ns vs) => some (c, ns, vs.length)
  | .c k => (match μ[k]? with
    | some (.ins c ns vs) => some (c, ns, vs.length)
    | _ => none)
  | _ => none
theorem zip_look {α : Type} {m : Str} : ∀ {ns : List Str} {vs : List α}, ns.contains m = false → (ns.zip vs).lookup m = none
  | [], _, _ => by simp
  | _ :: _, [], _ => by simp
  | n :: ns, v :: vs, h => by
    rw [List.contains_cons, Bool.or_eq_false_iff] at h
    rw [List.zip_cons_cons, List.lookup_cons, h.1]
    exact zip_look h.2
theorem clsOf_at {w : Wd} {μ : Sto} {x : EV} {v : V} {c : Str} {ns : List Str} {l : Nat} (r : RelH K CT w μ) (q : EVRep K CT w v x) (h : clsOf x μ = some (c, ns, l)) : ∃ a dx us, v = .ref a ∧ w.H a = some (.ins (CT c) dx (ns.zip us)) := by
  unfold clsOf at h
  split at h
  · cases h
    cases q with
    | v q => cases q with
      | ins ha hl hr => exact ⟨_, _, _, rfl, r.s _ _ ha⟩
  · split at h
    · rename_i hk
      cases h
      cases q with
      | c ha =>
        obtain ⟨_, dx, us, h2, _, _⟩ := r.cell _ _ _ hk ha
        exact ⟨_, dx, us, rfl, h2⟩
    · cases h
  · cases h
/-- o.m(..), o of the class c -/
def methM (c m : Str) (cl : FC) (n : Nat) (fo : FE) (fa : FA) : FE := fun ρ μ => (fo ρ μ).bind fun x μ1 => match clsOf x μ1 with
  | some (c', ns, _) => if c' = c ∧ ns.contains m = false then (fa ρ μ1).bind fun xs μ2 => callS cl n (x :: xs) μ2 else .no
  | none => .no
/-- the same with the whole store -/
def methW (c m : Str) (cl : FC) (n : Nat) (fo : FE) (fa : FA) : FE := fun ρ μ => (fo ρ μ).bind fun x μ1 => match clsOf x μ1 with
  | some (c', ns, _) => if c' = c ∧ ns.contains m = false then (fa ρ μ1).bind fun xs μ2 => callWn cl n (x :: xs) μ2 else .no
  | none => .no
theorem re_meth {C : Addr} {c m : Str} {cl : FC} {n : Nat} {t : TA} {f : FA} (hC : C = CT c) (ho : RE K CT E to fo) (ha : RA K CT E t f) : RE K CT E (tMeth C m (spOf K CT cl n) [] E to t) (methM c m cl n fo f) := by
  subst hC
  intro σ ρ w μ Q e r h
  refine ho σ ρ w μ _ e r (post_bind h fun x v w1 μ1 e1 r1 q1 h1 => ?_)
  split at h1
  · rename_i c' ns l hc
    split at h1
    · rename_i hcm
      obtain ⟨rfl, hm⟩ := hcm
      obtain ⟨a, dx, us, rfl, ha1⟩ := clsOf_at r1 q1 hc
      refine ⟨a, dx, _, rfl, ha1, zip_look hm, ?_⟩
      refine ha σ ρ w1 μ1 _ (e.ext e1) r1 (post_bind h1 fun xs vs w2 μ2 e2 r2 q2 h2 => ?_)
      rw [List.append_nil]
      exact callS_sp r2 (.cons (q1.ext e2) q2) h2
    · exact h1.elim
  · exact h1.elim
theorem re_methW {C : Addr} {c m : Str} {cl : FC} {n : Nat} {t : TA} {f : FA} (hC : C = CT c) (ho : RE K CT E to fo) (ha : RA K CT E t f) : RE K CT E (tMeth C m (spOf K CT cl n) [] E to t) (methW c m cl n fo f) := by
  subst hC
  intro σ ρ w μ Q e r h
  refine ho σ ρ w μ _ e r (post_bind h fun x v w1 μ1 e1 r1 q1 h1 => ?_)
  split at h1
  · rename_i c' ns l hc
    split at h1
    · rename_i hcm
      obtain ⟨rfl, hm⟩ := hcm
      obtain ⟨a, dx, us, rfl, ha1⟩ := clsOf_at r1 q1 hc
      refine ⟨a, dx, _, rfl, ha1, zip_look hm, ?_⟩
      refine ha σ ρ w1 μ1 _ (e.ext e1) r1 (post_bind h1 fun xs vs w2 μ2 e2 r2 q2 h2 => ?_)
      unfold callWn at h2
      split at h2
      · rename_i hl
        rw [List.append_nil]
        exact ⟨w2, μ2, x :: xs, rfl, r2, .cons (q1.ext e2) q2, by rw [← hl, List.length_cons, List.length_cons, q2.length], h2⟩
      · exact h2.elim
    · exact h1.elim
  · exact h1.elim
/-- o.m, a property -/
def propM (c : Str) (cl : FC) (fo : FE) : FE := fun ρ μ => (fo ρ μ).bind fun x μ1 => match clsOf x μ1 with
  | some (c', _, _) => if c' = c then callS cl 1 [x] μ1 else .no
  | none => .no
def propW (c : Str) (cl : FC) (fo : FE) : FE := fun ρ μ => (fo ρ μ).bind fun x μ1 => match clsOf x μ1 with
  | some (c', _, _) => if c' = c then callWn cl 1 [x] μ1 else .no
  | none => .no
theorem re_prop {C : Addr} {c : Str} {cl : FC} (hC : C = CT c) (ho : RE K CT E to fo) : RE K CT E (tProp C (spOf K CT cl 1) [] E to) (propM c cl fo) := by
  subst hC
  intro σ ρ w μ Q e r h
  refine ho σ ρ w μ _ e r (post_bind h fun x v w1 μ1 e1 r1 q1 h1 => ?_)
  split at h1
  · rename_i c' ns l hc
    split at h1
    · rename_i hcm
      subst hcm
      obtain ⟨a, dx, us, rfl, ha1⟩ := clsOf_at r1 q1 hc
      exact ⟨a, dx, _, rfl, ha1, callS_sp r1 (.cons q1 .nil) h1⟩
    · exact h1.elim
  · exact h1.elim
theorem re_propW {C : Addr} {c : Str} {cl : FC} (hC : C = CT c) (ho : RE K CT E to fo) : RE K CT E (tProp C (spOf K CT cl 1) [] E to) (propW c cl fo) := by
  subst hC
  intro σ ρ w μ Q e r h
  refine ho σ ρ w μ _ e r (post_bind h fun x v w1 μ1 e1 r1 q1 h1 => ?_)
  split at h1
  · rename_i c' ns l hc
    split at h1
    · rename_i hcm
      subst hcm
      obtain ⟨a, dx, us, rfl, ha1⟩ := clsOf_at r1 q1 hc
      exact ⟨a, dx, _, rfl, ha1, w1, μ1, [x], rfl, r1, .cons q1 .nil, rfl, h1⟩
    · exact h1.elim
  · exact h1.elim
/-! ### made things -/
/-- def f(a, .., *v): what its body's function tells -/
def starC (n : Nat) (cl : FC) : FC := fun xs μ => match pvs (xs.drop n) with
  | some ps => if ps.length ≤ sizeLine ∧ n ≤ xs.length then cl (xs.take n ++ [.v (.tup ps)]) μ else .no
  | none => .no
/-- the promise of such a def -/
def spStar (K : PySem.W.Frag) (CT : Str → Addr) (cl : FC) (n : Nat) : Sp := fun vs H Q E => ∃ ws rest, vs = ws ++ rest ∧ ws.length = n ∧ rest.length ≤ sizeLine ∧ ∀ p, H p = none → spOf K CT cl (n + 1) (ws ++ [V.ref p]) (upd H p (.tup rest)) Q E
/-- what a positional promise is to a function -/
def MeetsC (K : PySem.W.Frag) (CT : Str → Addr) (sp : Sp) (cl : FC) (ok : Nat → Prop) : Prop := ∀ (w : Wd) (μ : Sto) (vs : List V) (xs : List EV) (Q : VK) (E : XK), RelH K CT w μ → EVReps K CT w vs xs → ok vs.length → Post K CT (EVRep K CT) w Q E (cl xs μ) → sp vs w.H Q E
theorem meets_of {cl : FC} {n : Nat} : MeetsC K CT (spOf K CT cl n) cl (· = n) := fun w μ vs xs Q E r q hl h => ⟨w, μ, xs, rfl, r, q, hl, h⟩
theorem EVReps.take {w : Wd} : ∀ {vs : List V} {ps : List EV} (n : Nat), EVReps K CT w vs ps → EVReps K CT w (vs.take n) (ps.take n)
  | _, _, 0, _ => .nil
  | _, _, _ + 1, .nil => .nil
  | _, _, n + 1, .cons r t => .cons r (t.take n)
theorem EVReps.drop {w : Wd} : ∀ {vs : List V} {ps : List EV} (n : Nat), EVReps K CT w vs ps → EVReps K CT w (vs.drop n) (ps.drop n)
  | _, _, 0, r => r
  | _, _, _ + 1, .nil => .nil
  | _, _, n + 1, .cons _ t => t.drop n
theorem meets_star {cl : FC} {n : Nat} : MeetsC K CT (spStar K CT cl n) (starC n cl) (fun _ => True) := by
  intro w μ vs xs Q E r q _ h
  unfold starC at h
  split at h
  · rename_i ps hp
    split at h
    · rename_i hz
      have hr := pvs_reps (q.drop n) hp
      have hl := q.length
      refine ⟨vs.take n, vs.drop n, (List.take_append_drop n vs).symm, by rw [List.length_take, hl]; omega, by rw [hr.length]; exact hz.1, fun p hpn => ?_⟩
      have x := Ext.new (o := .tup (vs.drop n)) r hpn
      refine ⟨⟨w.α, upd w.Hs p (.tup (vs.drop n)), upd w.H p (.tup (vs.drop n))⟩, μ, _, rfl, r.new hpn, ((q.take n).ext x).append (.cons (.v (.tup (.of upd_same) (hr.same x.s))) .nil), by rw [List.length_append, List.length_take, hl]; simp; omega, Post.ext x h⟩
    · exact h.elim
  · exact h.elim
/-- C(..): the new thing is let go as a value -/
def makeS (c : Str) (cl : FC) (xs : List EV) (μ : Sto) : Ro EV := match pvs xs with
  | some _ => (match cl (.c 0 :: xs) [.ins c [] []] with
    | .ok (.v .non) (.ins c' ns vs :: _) => (match pvs vs with
      | some ps => if c' = c then .ok (.v (.ins c ns ps)) μ else .no
      | none => .no)
    | .exc c ns vs _ => .exc c ns vs μ
    | _ => .no)
  | none => .no
theorem Ext.fresh {w w2 : Wd} {H1 : Hp} {l : List Addr} (h1 : ∀ a o, w.H a = some o → H1 a = some o) (hnd : ∀ a, H1 a = none → w.H a = none) (hl : ∀ a ∈ l, w.H a = none) (x : Ext ⟨l, w.Hs, H1⟩ w2) : Ext w ⟨w.α, w2.Hs, w2.H⟩ where
  s := x.s
  al := List.prefix_rfl
  fr := fun a o h n => x.fr a o (h1 a o h) fun z => by rw [hl a z] at h; cases h
  na := fun _ h => .inl h
  ns := fun a o h => (x.ns a o h).elim .inl fun z => z.elim (fun z => .inr (.inl (hnd a z))) fun z => .inr (.inl (hl a z))
  nd := fun a h => hnd a (x.nd a h)
theorem backL {w w2 : Wd} {μ μ2 : Sto} {l : List Addr} (r : RelH K CT w μ) (x : Ext ⟨l, w.Hs, w.H⟩ w2) (r2 : RelH K CT w2 μ2) (hn : ∀ a ∈ w.α, a ∉ l) : RelH K CT ⟨w.α, w2.Hs, w2.H⟩ μ where
  s := r2.s
  len := r.len
  nd := r.nd
  cell := fun k y a h1 h2 => stay r x h1 h2 (hn a (List.mem_of_getElem? h2))
  al := fun a h z => r.al a h (x.nd a z)
/-- the heap with the new instance -/
abbrev mkH (H : Hp) (x dx : Addr) (C : Addr) : Hp := upd (upd H dx (.own x)) x (.ins C dx [])
theorem mkH_some {H : Hp} {x dx C : Addr} (hx : H x = none) (hd : H dx = none) : ∀ a o, H a = some o → mkH H x dx C a = some o := fun a o h => by
  unfold mkH
  rw [upd_ne (ne_of_none h hx), upd_ne (ne_of_none h hd)]
  exact h
theorem mkH_none {H : Hp} {x dx C : Addr} (hx : H x = none) (hd : H dx = none) : ∀ a, mkH H x dx C a = none → H a = none := fun a h => by
  unfold mkH at h
  by_cases e : a = x
  · subst e; exact hx
  · rw [upd_ne e] at h
    by_cases e2 : a = dx
    · subst e2; exact hd
    · rw [upd_ne e2] at h
      exact h
theorem mkH_rel {w : Wd} {μ : Sto} {x dx C : Addr} (r : RelH K CT w μ) (hx : w.H x = none) (hd : w.H dx = none) (hne : dx ≠ x) : RelH K CT ⟨w.α, w.Hs, mkH w.H x dx C⟩ μ := by
  have r1 := RelH.hid (o := .own x) r (r.notin hd) (r.free hd)
  exact RelH.hid (w := ⟨w.α, w.Hs, upd w.H dx (.own x)⟩) (o := .ins C dx []) r1 (r.notin hx) (r.free hx)
def makeM (c : Str) (cl : FC) (fa : FA) : FE := fun ρ μ => (fa ρ μ).bind fun xs μ1 => makeS c cl xs μ1
theorem makeS_sp {sp : Sp} {cl : FC} {ok : Nat → Prop} {c : Str} {w : Wd} {μ : Sto} {xs : List EV} {vs : List V} {Q : VK} (M : MeetsC K CT sp cl ok) (r : RelH K CT w μ) (q : EVReps K CT w vs xs) (hok : ok (vs.length + 1)) (h : Post K CT (EVRep K CT) w Q E (makeS c cl xs μ)) :
    ∀ x dx, w.H x = none → w.H dx = none → dx ≠ x → sp (.ref x :: vs) (mkH w.H x dx (CT c)) (fun v H2 => v = .non ∧ Q (.ref x) H2) E := by
  intro x dx hx hd hne
  unfold makeS at h
  split at h
  · rename_i ps hp
    have r1 : RelH K CT ⟨w.α, w.Hs, mkH w.H x dx (CT c)⟩ μ := mkH_rel r hx hd hne
    have r0 : RelH K CT ⟨[x], w.Hs, mkH w.H x dx (CT c)⟩ [.ins c [] []] := ⟨fun a o h => mkH_some hx hd a o (r.s a o h), rfl, by simp, fun j z b h1 h2 => by
      cases j with
      | zero =>
        simp at h1 h2
        subst h1 h2
        exact ⟨r.free hx, dx, [], upd_same, rfl, .nil⟩
      | succ j => simp at h1, fun b hb => by
        rw [List.mem_singleton.mp hb]
        show mkH w.H x dx (CT c) x ≠ none
        unfold mkH
        rw [upd_same]
        exact fun z => nomatch z⟩
    have hxl : ∀ a ∈ w.α, a ∉ [x] := fun a h z => r.notin hx (by rw [← List.mem_singleton.mp z]; exact h)
    have xf : ∀ {w2 : Wd}, Ext ⟨[x], w.Hs, mkH w.H x dx (CT c)⟩ w2 → Ext w ⟨w.α, w2.Hs, w2.H⟩ := fun {w2} z => Ext.fresh (mkH_some hx hd) (mkH_none hx hd) (fun a ha => by rw [List.mem_singleton.mp ha]; exact hx) z
    refine M ⟨[x], w.Hs, mkH w.H x dx (CT c)⟩ [.ins c [] []] (.ref x :: vs) (.c 0 :: xs) _ E r0 (.cons (.c rfl) (EVReps.vals (w := w) (w' := ⟨[x], w.Hs, mkH w.H x dx (CT c)⟩) rfl q (by rw [hp]; rfl))) hok ?_
    split at h
    · rename_i c' ns us μ2 hc
      split at h
      · rename_i qs hq
        split at h
        · rename_i hcc
          subst hcc
          rw [hc]
          intro b w2 x2 r2 qb
          have hb : b = .non := by
            cases qb with
            | v qb => cases qb; rfl
          refine ⟨hb, ?_⟩
          have h0 : w2.α[0]? = some x := prefix_get x2.al rfl
          obtain ⟨hs2, dx2, zs, hx2, hlen, hr2⟩ := r2.cell 0 _ x rfl h0
          have rr := backL (w := ⟨w.α, w.Hs, mkH w.H x dx (CT c')⟩) (l := [x]) r1 x2 r2 hxl
          have rf := RelH.show_ (a := x) (o := .ins (CT c') dx2 (ns.zip zs)) rr (r.notin hx) hs2 hx2
          have xx := Ext.show_ (a := x) (o := .ins (CT c') dx2 (ns.zip zs)) (xf x2) hx hs2
          have reps : Reps K CT w2.Hs zs qs := pvs_reps hr2 hq
          refine h (.ref x) ⟨w.α, upd w2.Hs x (.ins (CT c') dx2 (ns.zip zs)), w2.H⟩ xx rf (.v (.ins upd_same ?_ (reps.same fun a o h => by show upd w2.Hs x _ a = _; rw [upd_ne (ne_of_none h hs2)]; exact h)))
          rw [hlen, ← hr2.length, reps.length]
        · exact h.elim
      · exact h.elim
    · rename_i c' ns us μ2 hc
      rw [hc]
      intro w2 x2 r2
      exact h ⟨w.α, w2.Hs, w2.H⟩ (xf x2) (backL (w := ⟨w.α, w.Hs, mkH w.H x dx (CT c)⟩) (l := [x]) r1 x2 r2 hxl)
    · exact h.elim
  · exact h.elim
theorem re_make {C : Addr} {c : Str} {cl : FC} {n : Nat} {t : TA} {f : FA} (hC : C = CT c) (ha : RA K CT E t f) : RE K CT E (tMake C (spOf K CT cl n) [] E t) (fun ρ μ => (f ρ μ).bind fun xs μ1 => if xs.length + 1 = n then makeS c cl xs μ1 else .no) := by
  subst hC
  intro σ ρ w μ Q e r h
  refine ha σ ρ w μ _ e r (post_bind h fun xs vs w1 μ1 e1 r1 q1 h1 => ?_)
  split at h1
  · rename_i hl
    rw [List.append_nil]
    exact makeS_sp meets_of r1 q1 (by rw [q1.length]; exact hl) h1
  · exact h1.elim
theorem re_makeR {C : Addr} {c : Str} {cl : FC} {n : Nat} {t : TA} {f : FA} (hC : C = CT c) (ha : RA K CT E t f) : RE K CT E (StX.tMakeR C (spStar K CT cl n) E t) (makeM c (starC n cl) f) := by
  subst hC
  intro σ ρ w μ Q e r h
  refine ha σ ρ w μ _ e r (post_bind h fun xs vs w1 μ1 e1 r1 q1 h1 => ?_)
  exact makeS_sp meets_star r1 q1 trivial h1
/-- C(..): the new thing stays in the store -/
def makeW (c : Str) (cl : FC) (n : Nat) (xs : List EV) (μ : Sto) : Ro EV := if xs.length + 1 = n then (cl (.c μ.length :: xs) (μ ++ [.ins c [] []])).bind fun v μ2 => (match v with
  | .v .non => .ok (.c μ.length) μ2
  | _ => .no) else .no
theorem re_makeW {C : Addr} {c : Str} {cl : FC} {n : Nat} {t : TA} {f : FA} (hC : C = CT c) (ha : RA K CT E t f) : RE K CT E (tMake C (spOf K CT cl n) [] E t) (fun ρ μ => (f ρ μ).bind fun xs μ1 => makeW c cl n xs μ1) := by
  subst hC
  intro σ ρ w μ Q e r h
  refine ha σ ρ w μ _ e r (post_bind h fun xs vs w1 μ1 e1 r1 q1 h1 => ?_)
  intro x dx hx hd hne
  rw [List.append_nil]
  unfold makeW at h1
  split at h1
  · rename_i hl
    have hd' : upd w1.H dx (.own x) x = none := by rw [upd_ne hne.symm]; exact hx
    have r2 : RelH K CT ⟨w1.α, w1.Hs, upd w1.H dx (.own x)⟩ μ1 := RelH.hid r1 (r1.notin hd) (r1.free hd)
    have x2 : Ext w1 ⟨w1.α, w1.Hs, upd w1.H dx (.own x)⟩ := Ext.hid .refl hd
    have x3 : Ext ⟨w1.α, w1.Hs, upd w1.H dx (.own x)⟩ ⟨w1.α ++ [x], w1.Hs, mkH w1.H x dx (CT c)⟩ := Ext.cell (o := .ins (CT c) dx []) r2 hd'
    have r3 : RelH K CT ⟨w1.α ++ [x], w1.Hs, mkH w1.H x dx (CT c)⟩ (μ1 ++ [.ins c [] []]) := RelH.addCell (o := .ins (CT c) dx []) r2 hd' ⟨r1.free hx, dx, [], upd_same, rfl, .nil⟩
    have x13 := x2.trans x3
    have hc0 : EVRep K CT ⟨w1.α ++ [x], w1.Hs, mkH w1.H x dx (CT c)⟩ (.ref x) (.c μ1.length) := .c (by show (w1.α ++ [x])[μ1.length]? = some x; rw [← r1.len]; simp)
    refine ⟨_, _, .c μ1.length :: xs, rfl, r3, .cons hc0 (q1.ext x13), by rw [← hl, List.length_cons, q1.length], ?_⟩
    refine post_at x13 h1 fun a b w4 μ4 e4 r4 q4 h4 => ?_
    split at h4
    · have hb : b = .non := by
        cases q4 with
        | v qb => cases qb; rfl
      exact ⟨hb, h4 (.ref x) w4 (x13.trans e4) r4 (hc0.ext e4)⟩
    · exact h4.elim
  · exact h1.elim
/-! ### a field is stored -/
def putNs (f : Str) : List Str → List Str
  | [] => [f]
  | g :: r => if g = f then g :: r else g :: putNs f r
def putVs {α : Type} (f : Str) (v : α) : List Str → List α → List α
  | g :: r, x :: xs => if g = f then v :: xs else x :: putVs f v r xs
  | _, _ => [v]
theorem put_zip {f : Str} {v : V} : ∀ {ns : List Str} {us : List V}, ns.length = us.length → putF f v (ns.zip us) = (putNs f ns).zip (putVs f v ns us)
  | [], [], _ => rfl
  | g :: r, x :: xs, h => by
    rw [List.zip_cons_cons]
    unfold putF putNs putVs
    split
    · rw [List.zip_cons_cons]
    · rw [List.zip_cons_cons, put_zip (by simpa using h)]
theorem put_len {f : Str} {w : Wd} {v : V} {e : EV} (q : EVRep K CT w v e) : ∀ {ns : List Str} {us : List V} {es : List EV}, ns.length = es.length → EVReps K CT w us es → (putNs f ns).length = (putVs f e ns es).length ∧ EVReps K CT w (putVs f v ns us) (putVs f e ns es)
  | [], _, _, h, .nil => ⟨rfl, .cons q .nil⟩
  | [], _, _, h, .cons _ _ => by simp at h
  | _ :: _, _, _, h, .nil => by simp at h
  | g :: r, _, _, h, .cons a t => by
    unfold putNs putVs
    split
    · exact ⟨by simpa using h, .cons q t⟩
    · obtain ⟨h1, h2⟩ := put_len (f := f) q (ns := r) (by simpa using h) t
      exact ⟨by simp [h1], .cons a h2⟩
def setfE (cs : List Str) (f : Str) (y x : EV) (ρ : Env) (μ : Sto) : So := match x with
  | .c k => (match μ[k]? with
    | some (.ins c ns vs) => if cs.contains c ∧ ns.length < 1000 then .nx ρ (μ.set k (.ins c (putNs f ns) (putVs f y ns vs))) else .no
    | _ => .no)
  | _ => .no
def setfS (cs : List Str) (f : Str) (fv fo : FE) : FS := fun ρ μ => (fv ρ μ).stm fun y μ1 => (fo ρ μ1).stm fun x μ2 => setfE cs f y x ρ μ2
theorem EVReps.sameH {w : Wd} {H : Hp} : ∀ {vs : List V} {es : List EV}, EVReps K CT w vs es → EVReps K CT ⟨w.α, w.Hs, H⟩ vs es
  | _, _, .nil => .nil
  | _, _, .cons (.v a) t => .cons (.v a) t.sameH
  | _, _, .cons (.c a) t => .cons (.c a) t.sameH
theorem zip_len {α : Type} : ∀ {ns : List Str} {us : List α}, (ns.zip us).length ≤ ns.length
  | [], _ => by simp
  | _ :: _, [] => by simp
  | _ :: ns, _ :: us => by simp only [List.zip_cons_cons, List.length_cons]; exact Nat.succ_le_succ zip_len
theorem rs_fld {f : Str} {cs : List Str} (F : FldOk K CT cs f) (hv : RE K CT E tv fv) (ho : RE K CT E to fo) : RS K CT E (sFld K to tv f) (setfS cs f fv fo) := by
  intro D σ ρ w μ e r h
  refine hv σ ρ w μ _ e r (post_stm h fun y v w1 μ1 e1 r1 q1 h1 => ?_)
  refine ho σ ρ w1 μ1 _ (e.ext e1) r1 (post_stm h1 fun x u w2 μ2 e2 r2 q2 h2 => ?_)
  unfold setfE at h2
  split at h2
  · split at h2
    · rename_i hk
      split at h2
      · rename_i hc
        cases q2 with
        | c ha =>
          rename_i k c ns vs a
          obtain ⟨hs, dx, us, hx, hl, hr⟩ := r2.cell _ _ _ hk ha
          obtain ⟨c1, c2⟩ := F.ok _ (by simpa using hc.1)
          refine ⟨a, CT c, dx, _, rfl, hx, c1, c2, Nat.lt_of_le_of_lt zip_len hc.2, ?_⟩
          have hul : ns.length = us.length := by rw [hl, hr.length]
          rw [put_zip hul]
          obtain ⟨p1, p2⟩ := put_len (f := f) (q1.ext e2) hl hr
          have hm := List.mem_of_getElem? ha
          exact h2 σ ⟨w2.α, w2.Hs, _⟩ (Ext.mut hm (r2.al a hm)) (r2.mut ha hs ⟨hs, dx, _, upd_same, p1, p2.sameH⟩) ((e.ext (e1.trans e2)).ext (Ext.mut hm (r2.al a hm)))
      · exact h2.elim
    · exact h2.elim
  · exact h2.elim
end
end P

set_option Elab.async false
set_option linter.all false
set_option maxRecDepth 100000
set_option maxHeartbeats 4000000
/-! Operators and built-in calls. -/
namespace P
open PySem PySem.Spec L2 G
section
variable {K : PySem.W.Frag} {CT : Str → Addr} {E : XK}
theorem post_ok {w : Wd} {μ : Sto} {Q : VK} {v : V} {p : PV} (r : RelH K CT w μ) (h : Rep K CT w.Hs v p) (q : Post K CT (EVRep K CT) w Q E (.ok (.v p) μ)) : Q v w.H := q v w .refl r (.v h)
def intO (g : Int → Int → PV) : FO := fun x y μ => match x, y with
  | .v (.int a), .v (.int b) => .ok (.v (g a b)) μ
  | _, _ => .no
def intCO (C : Int → Int → Bool) (g : Int → Int → PV) : FO := fun x y μ => match x, y with
  | .v (.int a), .v (.int b) => if C a b then .ok (.v (g a b)) μ else .no
  | _, _ => .no
theorem rop_int {g : Int → Int → V} {g' : Int → Int → PV} (hg : ∀ a b H, Rep K CT H (g a b) (g' a b)) : ROp K CT E (rI0 g) (intO g') := by
  intro w μ v u x y Q r q1 q2 h
  unfold intO at h
  split at h
  · cases q1 with
    | v q1 => cases q2 with
      | v q2 =>
        cases q1
        cases q2
        exact ⟨_, _, rfl, rfl, post_ok r (hg _ _ _) h⟩
  · exact h.elim
theorem rop_intC {C : Int → Int → Prop} {C' : Int → Int → Bool} {g : Int → Int → V} {g' : Int → Int → PV} (hC : ∀ a b, C' a b = true → C a b) (hg : ∀ a b H, Rep K CT H (g a b) (g' a b)) : ROp K CT E (rI C g) (intCO C' g') := by
  intro w μ v u x y Q r q1 q2 h
  unfold intCO at h
  split at h
  · split at h
    · rename_i hc
      cases q1 with
      | v q1 => cases q2 with
        | v q2 =>
          cases q1
          cases q2
          exact ⟨_, _, rfl, rfl, hC _ _ hc, post_ok r (hg _ _ _) h⟩
    · exact h.elim
  · exact h.elim
abbrev iV (f : Int → Int → Int) : Int → Int → PV := fun a b => .int (f a b)
abbrev bV (f : Int → Int → Bool) : Int → Int → PV := fun a b => .bl (f a b)
def subO : FO := intO (iV (· - ·))
def smallB (a b : Int) : Bool := (decide (-(2 ^ 64) < a) && decide (a < 2 ^ 64)) || (decide (-(2 ^ 64) < b) && decide (b < 2 ^ 64))
def mulO : FO := intCO smallB (iV (· * ·))
def posB (_ b : Int) : Bool := decide (0 < b)
def divB (_ b : Int) : Bool := decide (0 < b) && decide (b < 2 ^ 64)
def fdivO : FO := intCO divB (iV (· / ·))
def modO : FO := intCO posB (iV (· % ·))
def powB (a b : Int) : Bool := decide (0 ≤ b) && (decide (b ≤ 1000000) && decide (a.natAbs < 2 ^ 64))
def powO : FO := intCO powB (iV fun a b => a ^ b.toNat)
def ltO : FO := intO (bV fun a b => decide (a < b))
def leO : FO := intO (bV fun a b => decide (a ≤ b))
def gtO : FO := intO (bV fun a b => decide (b < a))
def geO : FO := intO (bV fun a b => decide (b ≤ a))
theorem rop_sub : ROp K CT E (rI0 fun i j => .int (i - j)) subO := rop_int fun _ _ _ => .int _
theorem rop_mul : ROp K CT E (rI CMul fun i j => .int (i * j)) mulO := rop_intC (fun a b h => by
  unfold smallB at h
  simp only [Bool.or_eq_true, Bool.and_eq_true, decide_eq_true_eq] at h
  exact h) fun _ _ _ => .int _
theorem rop_fdiv : ROp K CT E (rI CDivW fun i j => .int (i / j)) fdivO := rop_intC (fun a b h => by
  unfold divB at h
  simp only [Bool.and_eq_true, decide_eq_true_eq] at h
  exact divW h.1 h.2) fun _ _ _ => .int _
theorem rop_mod : ROp K CT E (rI (fun _ j => 0 < j) fun i j => .int (i % j)) modO := rop_intC (fun a b h => of_decide_eq_true h) fun _ _ _ => .int _
theorem rop_pow : ROp K CT E (rI CPow fun i j => .int (i ^ j.toNat)) powO := rop_intC (fun a b h => by
  unfold powB at h
  simp only [Bool.and_eq_true, decide_eq_true_eq] at h
  exact h) fun _ _ _ => .int _
theorem rop_lt : ROp K CT E (rI0 fun i j => .bl (decide (i < j))) ltO := rop_int fun _ _ _ => .bl _
theorem rop_le : ROp K CT E (rI0 fun i j => .bl (decide (i ≤ j))) leO := rop_int fun _ _ _ => .bl _
theorem rop_gt : ROp K CT E (rI0 fun i j => .bl (decide (j < i))) gtO := rop_int fun _ _ _ => .bl _
theorem rop_ge : ROp K CT E (rI0 fun i j => .bl (decide (j ≤ i))) geO := rop_int fun _ _ _ => .bl _
def negU : EV → Sto → Ro EV := fun x μ => match x with
  | .v (.int a) => .ok (.v (.int (-a))) μ
  | _ => .no
theorem ru_neg : RU K CT E (rU fun i => .int (-i)) negU := by
  intro w μ v x Q r q h
  unfold negU at h
  split at h
  · cases q with
    | v q => cases q; exact ⟨_, rfl, post_ok r (.int _) h⟩
  · exact h.elim
/-! ### + of ints, texts, lists, tuples -/
def rAddS : R2 := fun x y H Q => ∃ i j, x = .str i ∧ y = .str j ∧ i.length + j.length ≤ sizeLine ∧ Q (.str (i ++ j)) H
def rAddP (K : PySem.W.Frag) : R2 := rOr (rI0 fun i j => .int (i + j)) (rOr rAddS (rOr rCat (rCatA K)))
theorem op_addP {X : Cx} : OpR X (binaryOp .Add) (rAddP X.K) := G.OpR.or op_add (G.OpR.or (r := rAddS) op_add_str (G.OpR.or op_cat op_catA))
def addO : FO := fun x y μ => match x, y with
  | .v (.int a), .v (.int b) => .ok (.v (.int (a + b))) μ
  | .v (.str a), .v (.str b) => if a.length + b.length ≤ sizeLine then .ok (.v (.str (a ++ b))) μ else .no
  | .v (.lst a), .v (.lst b) => if a.length + b.length ≤ sizeLine then .ok (.v (.lst (a ++ b))) μ else .no
  | .v (.tup a), .v (.tup b) => if a.length + b.length ≤ sizeLine then .ok (.v (.tup (a ++ b))) μ else .no
  | _, _ => .no
theorem rop_add : ROp K CT E (rAddP K) addO := by
  intro w μ v u x y Q r q1 q2 h
  unfold addO at h
  split at h
  · cases q1 with
    | v q1 => cases q2 with
      | v q2 => cases q1; cases q2; exact .inl ⟨_, _, rfl, rfl, post_ok r (.int _) h⟩
  · split at h
    · rename_i hl
      cases q1 with
      | v q1 => cases q2 with
        | v q2 => cases q1; cases q2; exact .inr (.inl ⟨_, _, rfl, rfl, hl, post_ok r (.str _) h⟩)
    · exact h.elim
  · split at h
    · rename_i hl
      cases q1 with
      | v q1 => cases q2 with
        | v q2 => cases q1 with
          | lst h1 r1 => cases q2 with
            | lst h2 r2 =>
              refine .inr (.inr (.inl ⟨_, _, _, _, rfl, rfl, r.s _ _ h1, r.s _ _ h2, by rw [r1.length, r2.length]; exact hl, fun p hp => ?_⟩))
              exact post_new r (fun H hH s => .lst hH ((r1.append r2).same s)) h hp
    · exact h.elim
  · split at h
    · rename_i hl
      cases q1 with
      | v q1 => cases q2 with
        | v q2 => cases q1 with
          | tup h1 r1 => cases q2 with
            | tup h2 r2 =>
              refine .inr (.inr (.inr ⟨_, _, _, _, rfl, rfl, sqT_same r.s h1, sqT_same r.s h2, by rw [r1.length, r2.length]; exact hl, ?_, ?_, ?_⟩))
              · rintro rfl
                cases r1
                exact post_ok r (.tup h2 r2) h
              · rintro _ rfl
                cases r2
                rw [List.append_nil] at h
                exact post_ok r (.tup h1 r1) h
              · rintro _ _ p hp
                exact post_new r (fun H hH s => .tup (.of hH) ((r1.append r2).same s)) h hp
    · exact h.elim
  · exact h.elim
/-! ### == -/
mutual
def datOf : PV → Option PyData
  | .non => some .none
  | .bl b => some (.bool b)
  | .int i => some (.int i)
  | .str s => some (.str s)
  | .tup xs => (datAll xs).map PyData.tuple
  | .lst xs => (datAll xs).map PyData.list
  | _ => none
def datAll : List PV → Option (List PyData)
  | [] => some []
  | x :: xs => match datOf x, datAll xs with
    | some d, some ds => some (d :: ds)
    | _, _ => none
end
mutual
theorem dat_dp {H Hs : Hp} (s : Same Hs H) : ∀ (p : PV) (v : V) (d : PyData), Rep K CT Hs v p → datOf p = some d → Dp K H v d
  | .non, _, _, h, e => by cases h; cases e; exact .non
  | .bl b, _, _, h, e => by cases h; cases e; exact .bl b
  | .int b, _, _, h, e => by cases h; cases e; exact .int b
  | .str b, _, _, h, e => by cases h; cases e; exact .str b
  | .tup xs, _, _, h, e => by
    simp only [datOf, Option.map_eq_some_iff] at e
    obtain ⟨ds, e1, rfl⟩ := e
    cases h with
    | tup hs hr => exact .tup (sqT_same s hs) (dat_dpAll s xs _ ds hr e1)
  | .lst xs, _, _, h, e => by
    simp only [datOf, Option.map_eq_some_iff] at e
    obtain ⟨ds, e1, rfl⟩ := e
    cases h with
    | lst hs hr => exact .lst (.of (s _ _ hs)) (dat_dpAll s xs _ ds hr e1)
  | .frl _, _, _, _, e => by simp [datOf] at e
  | .dct _ _, _, _, _, e => by simp [datOf] at e
  | .ins _ _ _, _, _, _, e => by simp [datOf] at e
  | .ty _, _, _, _, e => by simp [datOf] at e
  | .cls _, _, _, _, e => by simp [datOf] at e
theorem dat_dpAll {H Hs : Hp} (s : Same Hs H) : ∀ (ps : List PV) (vs : List V) (ds : List PyData), Reps K CT Hs vs ps → datAll ps = some ds → DpAll K H vs ds
  | [], _, _, h, e => by cases h; cases e; exact .nil
  | p :: ps, _, _, h, e => by
    cases h with
    | cons h1 h2 =>
      unfold datAll at e
      split at e
      · rename_i d ds e1 e2
        cases e
        exact .cons (dat_dp s p _ d h1 e1) (dat_dpAll s ps _ ds h2 e2)
      · cases e
end
def eqB (x y : PV) : Option Bool := match x, y with
  | .int a, .int b => some (decide (a = b))
  | .str a, .str b => some (decide (a = b))
  | x, y => match datOf x, datOf y with
    | some d, some e => if SeqAt.shaped d && SeqAt.shaped e then some (PyData.eqv d e) else none
    | _, _ => none
def eqO : FO := fun x y μ => match x, y with
  | .v a, .v b => (match eqB a b with
    | some r => .ok (.v (.bl r)) μ
    | none => .no)
  | _, _ => .no
def neO : FO := fun x y μ => match x, y with
  | .v a, .v b => (match eqB a b with
    | some r => .ok (.v (.bl (!r))) μ
    | none => .no)
  | _, _ => .no
theorem decV {a b : Int} : decide (V.int a = V.int b) = decide (a = b) := by
  by_cases h : a = b
  · subst h; simp
  · rw [decide_eq_false h, decide_eq_false (fun z => h (V.int.inj z))]
theorem decS {a b : Str} : decide (V.str a = V.str b) = decide (a = b) := by
  by_cases h : a = b
  · subst h; simp
  · rw [decide_eq_false h, decide_eq_false (fun z => h (V.str.inj z))]
theorem eqB_meets {w : Wd} {μ : Sto} {v u : V} {x y : PV} {b : Bool} (r : RelH K CT w μ) (q1 : Rep K CT w.Hs v x) (q2 : Rep K CT w.Hs u y) (h : eqB x y = some b) : (∀ Q : VK, Q (.bl b) w.H → rEqP K v u w.H Q) ∧ ∀ Q : VK, Q (.bl (!b)) w.H → rNeP K v u w.H Q := by
  unfold eqB at h
  split at h
  · cases q1; cases q2; cases h
    exact ⟨fun Q q => .inl ⟨rfl, by rw [decV]; exact q⟩, fun Q q => .inl ⟨rfl, by rw [decV]; exact q⟩⟩
  · cases q1; cases q2; cases h
    exact ⟨fun Q q => .inl ⟨rfl, by rw [decS]; exact q⟩, fun Q q => .inl ⟨rfl, by rw [decS]; exact q⟩⟩
  · split at h
    · rename_i d e e1 e2
      split at h
      · rename_i hs
        cases h
        rw [Bool.and_eq_true] at hs
        exact ⟨fun Q q => .inr ⟨d, e, dat_dp r.s _ _ _ q1 e1, dat_dp r.s _ _ _ q2 e2, hs.1, hs.2, q⟩, fun Q q => .inr ⟨d, e, dat_dp r.s _ _ _ q1 e1, dat_dp r.s _ _ _ q2 e2, hs.1, hs.2, q⟩⟩
      · cases h
    · cases h
theorem rop_eq : ROp K CT E (rEqP K) eqO := by
  intro w μ v u x y Q r q1 q2 h
  unfold eqO at h
  split at h
  · split at h
    · rename_i b hb
      cases q1 with
      | v q1 => cases q2 with
        | v q2 => exact (eqB_meets r q1 q2 hb).1 Q (post_ok r (.bl _) h)
    · exact h.elim
  · exact h.elim
theorem rop_ne : ROp K CT E (rNeP K) neO := by
  intro w μ v u x y Q r q1 q2 h
  unfold neO at h
  split at h
  · split at h
    · rename_i b hb
      cases q1 with
      | v q1 => cases q2 with
        | v q2 => exact (eqB_meets r q1 q2 hb).2 Q (post_ok r (.bl _) h)
    · exact h.elim
  · exact h.elim
/-! ### is None -/
def isNon : EV → Option Bool
  | .v .non => some true
  | .v _ => some false
  | .c _ => some false
def isNO : FO := fun x y μ => match y with
  | .v .non => .ok (.v (.bl ((isNon x).getD false))) μ
  | _ => .no
def notNO : FO := fun x y μ => match y with
  | .v .non => .ok (.v (.bl (!(isNon x).getD false))) μ
  | _ => .no
theorem isNon_of {w : Wd} {v : V} {x : EV} (q : EVRep K CT w v x) : decide (v = .non) = (isNon x).getD false := by
  cases q with
  | v q => cases q <;> rfl
  | c h => rfl
theorem rop_isN : ROp K CT E (fun x y H Q => y = .non ∧ Q (.bl (decide (x = .non))) H) isNO := by
  intro w μ v u x y Q r q1 q2 h
  unfold isNO at h
  split at h
  · cases q2 with
    | v q2 =>
      cases q2
      refine ⟨rfl, ?_⟩
      rw [isNon_of q1]
      exact post_ok r (.bl _) h
  · exact h.elim
theorem rop_notN : ROp K CT E (fun x y H Q => y = .non ∧ Q (.bl (!decide (x = .non))) H) notNO := by
  intro w μ v u x y Q r q1 q2 h
  unfold notNO at h
  split at h
  · cases q2 with
    | v q2 =>
      cases q2
      refine ⟨rfl, ?_⟩
      rw [isNon_of q1]
      exact post_ok r (.bl _) h
  · exact h.elim
/-! ### items -/
/-- the items of a list or tuple -/
def seqE (x : EV) (μ : Sto) : Option (List PV) := match x with
  | .v (.lst ps) => some ps
  | .v (.frl ps) => some ps
  | .v (.tup ps) => some ps
  | .c k => (match μ[k]? with
    | some (.lst ps) => some ps
    | _ => none)
  | _ => none
theorem seqE_at {w : Wd} {μ : Sto} {v : V} {x : EV} {ps : List PV} (r : RelH K CT w μ) (q : EVRep K CT w v x) (h : seqE x μ = some ps) : ∃ a vs, v = .ref a ∧ Reps K CT w.Hs vs ps ∧ (SqL K w.H a vs ∨ SqT K w.H a vs) := by
  unfold seqE at h
  split at h
  · cases h
    cases q with
    | v q => cases q with
      | lst hq hr => exact ⟨_, _, rfl, hr, .inl (.of (r.s _ _ hq))⟩
  · cases h
    cases q with
    | v q => cases q with
      | frl hq hr => exact ⟨_, _, rfl, hr, .inl (r.s.seq hq)⟩
  · cases h
    cases q with
    | v q => cases q with
      | tup hq hr => exact ⟨_, _, rfl, hr, .inr (sqT_same r.s hq)⟩
  · split at h
    · rename_i hk
      cases h
      cases q with
      | c ha =>
        obtain ⟨_, vs, h2, hr⟩ := r.cell _ _ _ hk ha
        exact ⟨_, vs, rfl, hr, .inl (.of h2)⟩
    · cases h
  · cases h
def ixO : FO := fun x y μ => match y with
  | .v (.int i) => (match x with
    | .v (.str s) => (match atI s.cps.toList i with
      | some c => if s.length ≤ sizeLine then .ok (.v (.str ⟨#[c]⟩)) μ else .no
      | none => .no)
    | x => (match seqE x μ with
      | some ps => (match atI ps i with
        | some p => .ok (.v p) μ
        | none => .no)
      | none => .no))
  | _ => .no
theorem Reps.atI {H : Hp} {vs : List V} {ps : List PV} {i : Int} {p : PV} (r : Reps K CT H vs ps) (h : atI ps i = some p) : ∃ v, L2.atI vs i = some v ∧ Rep K CT H v p := by
  unfold L2.atI at h ⊢
  rw [r.length]
  cases q : ixN ps.length i with
  | none => rw [q] at h; cases h
  | some j =>
    rw [q] at h
    exact r.get h
theorem rop_ix : ROp K CT E (rIx K) ixO := by
  intro w μ v u x y Q r q1 q2 h
  unfold ixO at h
  split at h
  · cases q2 with
    | v q2 =>
      cases q2
      split at h
      · split at h
        · split at h
          · rename_i hc hl
            cases q1 with
            | v q1 => cases q1; exact .inr (.inr ⟨_, _, _, rfl, rfl, hl, hc, post_ok r (.str _) h⟩)
          · exact h.elim
        · exact h.elim
      · split at h
        · rename_i hs
          split at h
          · rename_i hp
            obtain ⟨a, vs, rfl, hr, hq⟩ := seqE_at r q1 hs
            obtain ⟨z, hz, rz⟩ := hr.atI hp
            rcases hq with hq | hq
            · exact .inl ⟨_, _, _, z, rfl, rfl, hq, hz, post_ok r rz h⟩
            · exact .inr (.inl ⟨_, _, _, z, rfl, rfl, hq, hz, post_ok r rz h⟩)
          · exact h.elim
        · exact h.elim
  · exact h.elim
/-! ### built-in calls -/
def lenO : List EV → Sto → Ro EV := fun xs μ => match xs with
  | [.v (.str s)] => if s.length ≤ sizeLine then .ok (.v (.int s.length)) μ else .no
  | [x] => (match seqE x μ with
    | some ps => .ok (.v (.int ps.length)) μ
    | none => .no)
  | _ => .no
theorem rc_len : RC K CT E (G.rLen K) lenO := by
  intro w μ vs xs Q r q h
  unfold lenO at h
  split at h
  · split at h
    · rename_i hl
      cases q with
      | cons q1 q2 => cases q2 with
        | nil => cases q1 with
          | v q1 => cases q1; exact i_lenS hl (post_ok r (.int _) h)
    · exact h.elim
  · split at h
    · rename_i hs
      cases q with
      | cons q1 q2 => cases q2 with
        | nil =>
          obtain ⟨a, vs, rfl, hr, hq⟩ := seqE_at r q1 hs
          rcases hq with hq | hq
          · exact i_lenL hq (by rw [hr.length]; exact post_ok r (.int _) h)
          · exact i_lenT hq (by rw [hr.length]; exact post_ok r (.int _) h)
    · exact h.elim
  · exact h.elim
def int1O : List EV → Sto → Ro EV := fun xs μ => match xs with
  | [.v (.int a)] => .ok (.v (.int a)) μ
  | [.v (.bl b)] => .ok (.v (.int (if b then 1 else 0))) μ
  | _ => .no
theorem rc_int1 : RC K CT E rInt1 int1O := by
  intro w μ vs xs Q r q h
  unfold int1O at h
  split at h
  · cases q with
    | cons q1 q2 => cases q2 with
      | nil => cases q1 with
        | v q1 => cases q1; exact i_int1 (post_ok r (.int _) h)
  · cases q with
    | cons q1 q2 => cases q2 with
      | nil => cases q1 with
        | v q1 => cases q1; exact i_int1b (post_ok r (.int _) h)
  · exact h.elim
def int2O (g : Int → Int → Int) : List EV → Sto → Ro EV := fun xs μ => match xs with
  | [.v (.int a), .v (.int b)] => .ok (.v (.int (g a b))) μ
  | _ => .no
def min2O : List EV → Sto → Ro EV := int2O fun a b => if b < a then b else a
def max2O : List EV → Sto → Ro EV := int2O fun a b => if b > a then b else a
theorem rc_min2 : RC K CT E rMin2 min2O := by
  intro w μ vs xs Q r q h
  unfold min2O int2O at h
  split at h
  · cases q with
    | cons q1 q2 => cases q2 with
      | cons q2 q3 => cases q3 with
        | nil => cases q1 with
          | v q1 => cases q2 with
            | v q2 => cases q1; cases q2; exact i_min2 (post_ok r (.int _) h)
  · exact h.elim
theorem rc_max2 : RC K CT E rMax2 max2O := by
  intro w μ vs xs Q r q h
  unfold max2O int2O at h
  split at h
  · cases q with
    | cons q1 q2 => cases q2 with
      | cons q2 q3 => cases q3 with
        | nil => cases q1 with
          | v q1 => cases q2 with
            | v q2 => cases q1; cases q2; exact i_max2 (post_ok r (.int _) h)
  · exact h.elim
def absO : List EV → Sto → Ro EV := fun xs μ => match xs with
  | [.v (.int a)] => .ok (.v (.int (if a < 0 then -a else a))) μ
  | _ => .no
theorem rc_abs : RC K CT E rAbs absO := by
  intro w μ vs xs Q r q h
  unfold absO at h
  split at h
  · cases q with
    | cons q1 q2 => cases q2 with
      | nil => cases q1 with
        | v q1 => cases q1; exact i_abs (post_ok r (.int _) h)
  · exact h.elim
def listO : List EV → Sto → Ro EV := fun xs μ => match xs with
  | [x] => (match seqE x μ with
    | some ps => .ok (.v (.lst ps)) μ
    | none => .no)
  | _ => .no
theorem rc_list : RC K CT E (rListOf K) listO := by
  intro w μ vs xs Q r q h
  unfold listO at h
  split at h
  · split at h
    · rename_i hs
      cases q with
      | cons q1 q2 => cases q2 with
        | nil =>
          obtain ⟨a, vs, rfl, hr, hq⟩ := seqE_at r q1 hs
          exact ⟨_, _, rfl, hq, fun l hl => post_new r (fun H hH s => .lst hH (hr.same s)) h hl⟩
    · exact h.elim
  · exact h.elim
def tupleO : List EV → Sto → Ro EV := fun xs μ => match xs with
  | [x] => (match seqE x μ with
    | some ps => .ok (.v (.tup ps)) μ
    | none => .no)
  | _ => .no
theorem rc_tuple : RC K CT E (rTupleOf K) tupleO := by
  intro w μ vs xs Q r q h
  unfold tupleO at h
  split at h
  · split at h
    · rename_i hs
      cases q with
      | cons q1 q2 => cases q2 with
        | nil =>
          have q1' := q1
          unfold seqE at hs
          split at hs
          · cases hs
            cases q1 with
            | v q => cases q with
              | lst hq hr => exact ⟨_, _, rfl, .inl ⟨.of (r.s _ _ hq), fun l hl => post_new r (fun H hH s => .tup (.of hH) (hr.same s)) h hl⟩⟩
          · cases hs
            cases q1 with
            | v q => cases q with
              | frl hq hr => exact ⟨_, _, rfl, .inl ⟨r.s.seq hq, fun l hl => post_new r (fun H hH s => .tup (.of hH) (hr.same s)) h hl⟩⟩
          · cases hs
            cases q1 with
            | v q => cases q with
              | tup hq hr => exact ⟨_, _, rfl, .inr ⟨sqT_same r.s hq, post_ok r (.tup hq hr) h⟩⟩
          · split at hs
            · rename_i hk
              cases hs
              cases q1 with
              | c ha =>
                obtain ⟨_, vs, h2, hr⟩ := r.cell _ _ _ hk ha
                exact ⟨_, _, rfl, .inl ⟨.of h2, fun l hl => post_new r (fun H hH s => .tup (.of hH) (hr.same s)) h hl⟩⟩
            · cases hs
          · cases hs
    · exact h.elim
  · exact h.elim
/-- the numbers, the bools, the texts of a list -/
def intsOf : List PV → Option (List Int)
  | [] => some []
  | .int i :: r => (intsOf r).map (i :: ·)
  | _ => none
def blsOf : List PV → Option (List Bool)
  | [] => some []
  | .bl i :: r => (blsOf r).map (i :: ·)
  | _ => none
def strsOf : List PV → Option (List Str)
  | [] => some []
  | .str i :: r => (strsOf r).map (i :: ·)
  | _ => none
theorem intsOf_eq {H : Hp} : ∀ {ps : List PV} {vs : List V} {ns : List Int}, Reps K CT H vs ps → intsOf ps = some ns → vs = ns.map V.int
  | [], _, _, .nil, e => by cases e; rfl
  | .int i :: r, _, _, .cons a t, e => by
    simp only [intsOf, Option.map_eq_some_iff] at e
    obtain ⟨m, e1, rfl⟩ := e
    cases a
    rw [intsOf_eq t e1]
    rfl
  | .non :: _, _, _, _, e | .bl _ :: _, _, _, _, e | .str _ :: _, _, _, _, e | .tup _ :: _, _, _, _, e | .lst _ :: _, _, _, _, e | .frl _ :: _, _, _, _, e | .dct _ _ :: _, _, _, _, e | .ins _ _ _ :: _, _, _, _, e | .ty _ :: _, _, _, _, e | .cls _ :: _, _, _, _, e => by simp [intsOf] at e
theorem blsOf_eq {H : Hp} : ∀ {ps : List PV} {vs : List V} {ns : List Bool}, Reps K CT H vs ps → blsOf ps = some ns → vs = ns.map V.bl
  | [], _, _, .nil, e => by cases e; rfl
  | .bl i :: r, _, _, .cons a t, e => by
    simp only [blsOf, Option.map_eq_some_iff] at e
    obtain ⟨m, e1, rfl⟩ := e
    cases a
    rw [blsOf_eq t e1]
    rfl
  | .non :: _, _, _, _, e | .int _ :: _, _, _, _, e | .str _ :: _, _, _, _, e | .tup _ :: _, _, _, _, e | .lst _ :: _, _, _, _, e | .frl _ :: _, _, _, _, e | .dct _ _ :: _, _, _, _, e | .ins _ _ _ :: _, _, _, _, e | .ty _ :: _, _, _, _, e | .cls _ :: _, _, _, _, e => by simp [blsOf] at e
theorem strsOf_eq {H : Hp} : ∀ {ps : List PV} {vs : List V} {ns : List Str}, Reps K CT H vs ps → strsOf ps = some ns → vs = ns.map V.str
  | [], _, _, .nil, e => by cases e; rfl
  | .str i :: r, _, _, .cons a t, e => by
    simp only [strsOf, Option.map_eq_some_iff] at e
    obtain ⟨m, e1, rfl⟩ := e
    cases a
    rw [strsOf_eq t e1]
    rfl
  | .non :: _, _, _, _, e | .int _ :: _, _, _, _, e | .bl _ :: _, _, _, _, e | .tup _ :: _, _, _, _, e | .lst _ :: _, _, _, _, e | .frl _ :: _, _, _, _, e | .dct _ _ :: _, _, _, _, e | .ins _ _ _ :: _, _, _, _, e | .ty _ :: _, _, _, _, e | .cls _ :: _, _, _, _, e => by simp [strsOf] at e
def blsO (g : List Bool → Bool) : List EV → Sto → Ro EV := fun xs μ => match xs with
  | [.v (.lst ps)] => (match blsOf ps with
    | some bs => .ok (.v (.bl (g bs))) μ
    | none => .no)
  | _ => .no
def allO : List EV → Sto → Ro EV := blsO fun bs => bs.all id
def anyO : List EV → Sto → Ro EV := blsO fun bs => bs.any id
theorem rc_all : RC K CT E (rAll K) allO := by
  intro w μ vs xs Q r q h
  unfold allO blsO at h
  split at h
  · split at h
    · rename_i hb
      cases q with
      | cons q1 q2 => cases q2 with
        | nil => cases q1 with
          | v q1 => cases q1 with
            | lst hq hr =>
              have e := blsOf_eq hr hb
              subst e
              exact ⟨_, _, rfl, .of (r.s _ _ hq), post_ok r (.bl _) h⟩
    · exact h.elim
  · exact h.elim
theorem rc_any : RC K CT E (rAny K) anyO := by
  intro w μ vs xs Q r q h
  unfold anyO blsO at h
  split at h
  · split at h
    · rename_i hb
      cases q with
      | cons q1 q2 => cases q2 with
        | nil => cases q1 with
          | v q1 => cases q1 with
            | lst hq hr =>
              have e := blsOf_eq hr hb
              subst e
              exact ⟨_, _, rfl, .of (r.s _ _ hq), post_ok r (.bl _) h⟩
    · exact h.elim
  · exact h.elim
def sumO : List EV → Sto → Ro EV := fun xs μ => match xs with
  | [.v (.lst ps)] => (match intsOf ps with
    | some ns => .ok (.v (.int ns.sum)) μ
    | none => .no)
  | _ => .no
theorem rc_sum : RC K CT E (rSum K) sumO := by
  intro w μ vs xs Q r q h
  unfold sumO at h
  split at h
  · split at h
    · rename_i hb
      cases q with
      | cons q1 q2 => cases q2 with
        | nil => cases q1 with
          | v q1 => cases q1 with
            | lst hq hr =>
              have e := intsOf_eq hr hb
              subst e
              exact ⟨_, _, rfl, .of (r.s _ _ hq), post_ok r (.int _) h⟩
    · exact h.elim
  · exact h.elim
/-! ### lists that are changed -/
/-- of a method of a list that will be changed -/
def bmC (o : Nat → List PV → List EV → Sto → Ro EV) (fo : FE) (fa : FA) : FE := fun ρ μ => (fo ρ μ).bind fun x μ1 => match x with
  | .c k => (match μ1[k]? with
    | some (.lst _) => (fa ρ μ1).bind fun xs μ2 => (match μ2[k]? with
      | some (.lst ps) => o k ps xs μ2
      | _ => .no)
    | _ => .no)
  | .v _ => .no
def RMC (K : PySem.W.Frag) (CT : Str → Addr) (E : XK) (r : V → List V → Hp → VK → Prop) (o : Nat → List PV → List EV → Sto → Ro EV) : Prop := ∀ (w : Wd) (μ : Sto) (a : Addr) (k : Nat) (vs : List V) (ps : List PV) (us : List V) (xs : List EV) (Q : VK), RelH K CT w μ → w.α[k]? = some a → w.Hs a = none → w.H a = some (.lst vs) → Reps K CT w.Hs vs ps → EVReps K CT w us xs → Post K CT (EVRep K CT) w Q E (o k ps xs μ) → r (.ref a) us w.H Q
theorem re_bmC {to : TE} {t : TA} {fo : FE} {f : FA} {r : V → List V → Hp → VK → Prop} {o : Nat → List PV → List EV → Sto → Ro EV} (hm : RMC K CT E r o) (ho : RE K CT E to fo) (ha : RA K CT E t f) : RE K CT E (tBM K "list" r to t) (bmC o fo f) := by
  intro σ ρ w μ Q e r h
  refine ho σ ρ w μ _ e r (post_bind h fun x v w1 μ1 e1 r1 q1 h1 => ?_)
  split at h1
  · split at h1
    · rename_i hk
      cases q1 with
      | c hq =>
        obtain ⟨_, vs, h2, hr⟩ := r1.cell _ _ _ hk hq
        refine ⟨tyV_lst h2, ha σ ρ w1 μ1 _ (e.ext e1) r1 (post_bind h1 fun xs us w2 μ2 e2 r2 q2 h3 => ?_)⟩
        split at h3
        · rename_i hk2
          have hq2 := prefix_get e2.al hq
          obtain ⟨hn, vs2, h4, hr2⟩ := r2.cell _ _ _ hk2 hq2
          exact hm w2 μ2 _ _ vs2 _ us xs Q r2 hq2 hn h4 hr2 q2 h3
        · exact h3.elim
    · exact h1.elim
  · exact h1.elim
/-- with no argument -/
def bmC0 (o : Nat → List PV → List EV → Sto → Ro EV) (fo : FE) : FE := fun ρ μ => (fo ρ μ).bind fun x μ1 => match x with
  | .c k => (match μ1[k]? with
    | some (.lst ps) => o k ps [] μ1
    | _ => .no)
  | .v _ => .no
theorem re_bmC0 {to : TE} {fo : FE} {r : V → List V → Hp → VK → Prop} {o : Nat → List PV → List EV → Sto → Ro EV} (hm : RMC K CT E r o) (ho : RE K CT E to fo) : RE K CT E (tBM0 K "list" r to) (bmC0 o fo) := by
  intro σ ρ w μ Q e r h
  refine ho σ ρ w μ _ e r (post_bind h fun x v w1 μ1 e1 r1 q1 h1 => ?_)
  split at h1
  · split at h1
    · rename_i hk
      cases q1 with
      | c hq =>
        obtain ⟨hn, vs, h2, hr⟩ := r1.cell _ _ _ hk hq
        refine ⟨tyV_lst h2, ?_⟩
        exact hm w1 μ1 _ _ vs _ [] [] Q r1 hq hn h2 hr .nil h1
    · exact h1.elim
  · exact h1.elim
theorem post_mutL {w : Wd} {μ : Sto} {Q : VK} {a : Addr} {k : Nat} {vs : List V} {ps : List PV} {v : V} {p : PV} (r : RelH K CT w μ) (ha : w.α[k]? = some a) (hn : w.Hs a = none) (hr : Reps K CT w.Hs vs ps) (hv : Rep K CT w.Hs v p) (h : Post K CT (EVRep K CT) w Q E (.ok (.v p) (μ.set k (.lst ps)))) : Q v (upd w.H a (.lst vs)) := by
  have hm := List.mem_of_getElem? ha
  exact h v ⟨w.α, w.Hs, upd w.H a (.lst vs)⟩ (Ext.mut hm (r.al a hm)) (r.mut ha hn ⟨hn, vs, upd_same, hr⟩) (.v hv)
def appendO : Nat → List PV → List EV → Sto → Ro EV := fun k ps xs μ => match xs with
  | [.v p] => if ps.length < sizeLine then .ok (.v .non) (μ.set k (.lst (ps ++ [p]))) else .no
  | _ => .no
theorem rm_append : RMC K CT E rAppend appendO := by
  intro w μ a k vs ps us xs Q r ha hn hH hr q h
  unfold appendO at h
  split at h
  · split at h
    · rename_i hl
      cases q with
      | cons q1 q2 => cases q2 with
        | nil => cases q1 with
          | v q1 => exact ⟨_, _, _, rfl, rfl, hH, by rw [hr.length]; exact hl, post_mutL r ha hn (hr.append (.cons q1 .nil)) .non h⟩
    · exact h.elim
  · exact h.elim
def popAtO : Nat → List PV → List EV → Sto → Ro EV := fun k ps xs μ => match xs with
  | [.v (.int i)] => if -(2 ^ 63) ≤ i ∧ i < 2 ^ 63 then (match seqIndex? i ps.length with
    | some j => (match ps[j]? with
      | some p => .ok (.v p) (μ.set k (.lst (ps.eraseIdx j)))
      | none => .no)
    | none => .no) else .no
  | _ => .no
theorem Reps.erase {H : Hp} : ∀ {vs : List V} {ps : List PV} (n : Nat), Reps K CT H vs ps → Reps K CT H (vs.eraseIdx n) (ps.eraseIdx n)
  | _, _, _, .nil => .nil
  | _, _, 0, .cons _ t => t
  | _, _, n + 1, .cons r t => .cons r (t.erase n)
theorem rm_popAt : RMC K CT E rPopAt popAtO := by
  intro w μ a k vs ps us xs Q r ha hn hH hr q h
  unfold popAtO at h
  split at h
  · split at h
    · rename_i hb
      split at h
      · rename_i j hj
        split at h
        · rename_i p hp
          cases q with
          | cons q1 q2 => cases q2 with
            | nil => cases q1 with
              | v q1 =>
                cases q1
                obtain ⟨v, hv, rv⟩ := hr.get hp
                exact ⟨_, _, _, j, v, rfl, rfl, hH, hb.1, hb.2, by rw [hr.length]; exact hj, hv, post_mutL r ha hn (hr.erase j) rv h⟩
        · exact h.elim
      · exact h.elim
    · exact h.elim
  · exact h.elim
def popO : Nat → List PV → List EV → Sto → Ro EV := fun k ps xs μ => match xs with
  | [] => (match ps[ps.length - 1]? with
    | some p => .ok (.v p) (μ.set k (.lst ps.dropLast))
    | none => .no)
  | _ => .no
theorem Reps.dropLast {H : Hp} {vs : List V} {ps : List PV} (h : Reps K CT H vs ps) : Reps K CT H vs.dropLast ps.dropLast := by
  rw [List.dropLast_eq_take, List.dropLast_eq_take, h.length]
  exact h.take _
theorem rm_pop : RMC K CT E rPop popO := by
  intro w μ a k vs ps us xs Q r ha hn hH hr q h
  unfold popO at h
  split at h
  · split at h
    · rename_i p hp
      cases q
      obtain ⟨v, hv, rv⟩ := hr.get hp
      exact ⟨_, _, v, rfl, rfl, hH, by rw [hr.length]; exact hv, post_mutL r ha hn hr.dropLast rv h⟩
    · exact h.elim
  · exact h.elim
/-- o[i] = v -/
def setO (x y e : EV) (μ : Sto) : Ro EV := match x, y, e with
  | .c k, .v (.int i), .v p => (match μ[k]? with
    | some (.lst ps) => (match ixN ps.length i with
      | some j => .ok (.v .non) (μ.set k (.lst (ps.set j p)))
      | none => .no)
    | _ => .no)
  | _, _, _ => .no
def subG (fo fi : FE) : FG := fun e ρ μ => (fo ρ μ).bind fun x μ1 => (fi ρ μ1).bind fun y μ2 => (setO x y e μ2).bind fun _ μ3 => .ok ρ μ3
theorem rg_sub {to ti : TE} {fo fi : FE} (ho : RE K CT E to fo) (hi : RE K CT E ti fi) : RG K CT E (gSub to ti rSetL) (subG fo fi) := by
  intro v e σ ρ w μ Q q er r h
  refine ho σ ρ w μ _ er r (post_bind h fun x u w1 μ1 e1 r1 q1 h1 => ?_)
  refine hi σ ρ w1 μ1 _ (er.ext e1) r1 (post_bind h1 fun y u2 w2 μ2 e2 r2 q2 h2 => ?_)
  unfold setO at h2
  split at h2
  · split at h2
    · rename_i hk
      split at h2
      · rename_i j hj
        cases q1 with
        | c ha =>
          have ha2 := prefix_get e2.al ha
          cases q2 with
          | v q2 =>
            cases q2
            cases q with
            | v q =>
              obtain ⟨hn, vs, hH, hr⟩ := r2.cell _ _ _ hk ha2
              have hm := List.mem_of_getElem? ha2
              refine ⟨_, vs, _, j, rfl, rfl, hH, by rw [hr.length]; exact hj, ?_⟩
              exact h2 σ ⟨w2.α, w2.Hs, _⟩ (Ext.mut hm (r2.al _ hm)) (r2.mut ha2 hn ⟨hn, _, upd_same, hr.set (q.same (e1.trans e2).s) j⟩) (er.ext ((e1.trans e2).trans (Ext.mut hm (r2.al _ hm))))
      · exact h2.elim
    · exact h2.elim
  · exact h2.elim
/-- what the name i holds becomes a value -/
def freeze (e : EV) (μ : Sto) : Ro EV := match e with
  | .v p => .ok (.v p) μ
  | .c k => (match μ[k]? with
    | some (.lst ps) => .ok (.v (.lst ps)) (μ.set k .dead)
    | _ => .no)
theorem freeze_post {w : Wd} {μ : Sto} {Q : VK} {v : V} {x : EV} (r : RelH K CT w μ) (q : EVRep K CT w v x) (h : Post K CT (EVRep K CT) w Q E (freeze x μ)) : Q v w.H := by
  unfold freeze at h
  split at h
  · exact h v w .refl r q
  · split at h
    · rename_i hk
      cases q with
      | c ha =>
        obtain ⟨hn, vs, hH, hr⟩ := r.cell _ _ _ hk ha
        have hm := List.mem_of_getElem? ha
        refine h _ ⟨w.α, upd w.Hs _ (.lst vs), w.H⟩ (Ext.freeze hm hn) (r.freeze ha hn hH) (.v (.lst upd_same (hr.same fun b u hb => ?_)))
        show upd w.Hs _ _ b = _
        rw [upd_ne (ne_of_none hb hn)]
        exact hb
    · exact h.elim
def frM (fe : FE) : FE := fun ρ μ => (fe ρ μ).bind fun x μ1 => freeze x μ1
theorem re_fr {te : TE} {fe : FE} (he : RE K CT E te fe) : RE K CT E te (frM fe) := by
  intro σ ρ w μ Q e r h
  exact he σ ρ w μ _ e r (post_bind h fun x v w1 μ1 e1 r1 q1 h1 => freeze_post r1 q1 h1)
end
end P

set_option Elab.async false
set_option linter.all false
set_option maxRecDepth 100000
set_option maxHeartbeats 4000000
/-! isinstance, in, dicts. -/
namespace P
open PySem PySem.Spec L2 G
/-! ### isinstance -/
def bts : List String := ["int", "bool", "str", "tuple", "list", "dict"]
structure IsF (K : PySem.W.Frag) (CT : Str → Addr) (cs : List Str) : Prop where
  own : ∀ c ∈ cs, ∀ (H : Hp) (a dx : Addr) (fs : List (Str × V)), H a = some (.ins (CT c) dx fs) → TyX K H (.ref a) (.ref (CT c))
  oo : ∀ c ∈ cs, ∀ d ∈ cs, PySem.W.kitOne K (.ref (CT c)) (.ref (CT d)) = some (decide (c = d))
  bo : ∀ t ∈ "NoneType" :: bts, ∀ d ∈ cs, PySem.W.kitOne K (.type t) (.ref (CT d)) = some false
  ob : ∀ c ∈ cs, ∀ t ∈ bts, PySem.W.kitOne K (.ref (CT c)) (.type t) = some false
/-- the type of a value: a built-in one, an own one -/
inductive Tn where
  | b (n : String) | o (c : Str)
def tnP : PV → Option Tn
  | .non => some (.b "NoneType")
  | .bl _ => some (.b "bool")
  | .int _ => some (.b "int")
  | .str _ => some (.b "str")
  | .tup _ => some (.b "tuple")
  | .lst _ => some (.b "list")
  | .frl _ => some (.b "list")
  | .dct _ _ => some (.b "dict")
  | .ins c _ _ => some (.o c)
  | .ty _ => none
  | .cls _ => none
def tnE (x : EV) (μ : Sto) : Option Tn := match x with
  | .v p => tnP p
  | .c k => (match μ[k]? with
    | some (.lst _) => some (.b "list")
    | some (.dct _ _) => some (.b "dict")
    | some (.ins c _ _) => some (.o c)
    | _ => none)
/-- is it of that class -/
def isB (cs : List Str) (t : Tn) (y : PV) : Option Bool := match t, y with
  | .b n, .ty m => if bts.contains m then some (n == m || (n == "bool" && m == "int")) else none
  | .b _, .cls c => if cs.contains c then some false else none
  | .o c, .ty m => if cs.contains c && bts.contains m then some false else none
  | .o c, .cls d => if cs.contains c && cs.contains d then some (decide (c = d)) else none
  | _, _ => none
def isiO (cs : List Str) : List EV → Sto → Ro EV := fun xs μ => match xs with
  | [x, .v y] => (match tnE x μ with
    | some t => (match isB cs t y with
      | some b => .ok (.v (.bl b)) μ
      | none => .no)
    | none => .no)
  | _ => .no
theorem kit_bb : ∀ n ∈ "NoneType" :: bts, ∀ m ∈ bts, kitB n m = some (n == m || (n == "bool" && m == "int")) := by decide +kernel
section
variable {K : PySem.W.Frag} {CT : Str → Addr} {E : XK} {cs : List Str}
/-- what the type tells -/
def TnAt (K : PySem.W.Frag) (CT : Str → Addr) (cs : List Str) (H : Hp) (v : V) : Tn → Prop
  | .b n => n ∈ "NoneType" :: bts ∧ TyX K H v (.type n)
  | .o c => c ∈ cs → TyX K H v (.ref (CT c))
theorem sqT_ty {H : Hp} {a : Addr} {vs : List V} (h : SqT K H a vs) : TyX K H (.ref a) (.type "tuple") := by
  rcases h with (h | ⟨o, h⟩) | ⟨o, its, n, hk, hc, _⟩
  · exact .base (.tup h)
  · exact .fTuple h
  · exact .kTuple hk hc
theorem sqL_ty {H : Hp} {a : Addr} {vs : List V} (h : SqL K H a vs) : TyX K H (.ref a) (.type "list") := by
  rcases h with (h | ⟨o, h⟩) | ⟨o, its, n, hk, hc, _⟩
  · exact .base (.lst h)
  · exact .base (.frz h)
  · exact .kList hk hc
theorem tnE_at {w : Wd} {μ : Sto} {v : V} {x : EV} {t : Tn} (F : IsF K CT cs) (r : RelH K CT w μ) (q : EVRep K CT w v x) (h : tnE x μ = some t) : TnAt K CT cs w.H v t := by
  unfold tnE at h
  split at h
  · cases q with
    | v q =>
      cases q with
      | non => cases h; exact ⟨by decide, .base .non⟩
      | bl b => cases h; exact ⟨by decide, .base (.bl b)⟩
      | int b => cases h; exact ⟨by decide, .base (.int b)⟩
      | str b => cases h; exact ⟨by decide, .base (.str b)⟩
      | ty n => cases h
      | cls n => cases h
      | tup hq hr => cases h; exact ⟨by decide, sqT_ty (sqT_same r.s hq)⟩
      | lst hq hr => cases h; exact ⟨by decide, .base (.lst (r.s _ _ hq))⟩
      | frl hq hr => cases h; exact ⟨by decide, sqL_ty (r.s.seq hq)⟩
      | dct hq _ hr => cases h; exact ⟨by decide, .base (.dK (r.s _ _ hq))⟩
      | ins hq _ hr => cases h; exact fun hc => F.own _ hc _ _ _ _ (r.s _ _ hq)
  · split at h
    · rename_i hk
      cases h
      cases q with
      | c ha => obtain ⟨_, vs, h2, _⟩ := r.cell _ _ _ hk ha; exact ⟨by decide, .base (.lst h2)⟩
    · rename_i hk
      cases h
      cases q with
      | c ha => obtain ⟨_, vs, h2, _⟩ := r.cell _ _ _ hk ha; exact ⟨by decide, .base (.dK h2)⟩
    · rename_i hk
      cases h
      cases q with
      | c ha => obtain ⟨_, dx, vs, h2, _⟩ := r.cell _ _ _ hk ha; exact fun hc => F.own _ hc _ _ _ _ h2
    · cases h
theorem rc_isi (F : IsF K CT cs) : RC K CT E (rIsi K) (isiO cs) := by
  intro w μ vs xs Q r q h
  unfold isiO at h
  split at h
  · rename_i x y
    split at h
    · rename_i t ht
      split at h
      · rename_i b hb
        cases q with
        | cons q1 q2 => cases q2 with
          | cons q2 q3 => cases q3 with
            | nil =>
              have ta := tnE_at F r q1 ht
              cases q2 with
              | v q2 =>
                unfold isB at hb
                split at hb
                · split at hb
                  · rename_i hm
                    cases hb
                    cases q2
                    exact ⟨_, _, _, _, _, rfl, .ty _, ta.2, kit_ty (kit_bb _ ta.1 _ (by simpa using hm)), post_ok r (.bl _) h⟩
                  · cases hb
                · split at hb
                  · rename_i hm
                    cases hb
                    cases q2
                    exact ⟨_, _, _, _, _, rfl, .own _, ta.2, F.bo _ ta.1 _ (by simpa using hm), post_ok r (.bl _) h⟩
                  · cases hb
                · split at hb
                  · rename_i hm
                    cases hb
                    cases q2
                    rw [Bool.and_eq_true] at hm
                    have hc := (show _ ∈ cs by simpa using hm.1)
                    exact ⟨_, _, _, _, _, rfl, .ty _, ta hc, F.ob _ hc _ (by simpa using hm.2), post_ok r (.bl _) h⟩
                  · cases hb
                · split at hb
                  · rename_i hm
                    cases hb
                    cases q2
                    rw [Bool.and_eq_true] at hm
                    have hc := (show _ ∈ cs by simpa using hm.1)
                    exact ⟨_, _, _, _, _, rfl, .own _, ta hc, F.oo _ hc _ (by simpa using hm.2), post_ok r (.bl _) h⟩
                  · cases hb
                · cases hb
      · exact h.elim
    · exact h.elim
  · exact h.elim
/-! ### in -/
def flatP : PV → Bool
  | .non => true
  | .bl _ => true
  | .int _ => true
  | .str _ => true
  | _ => false
def eqP : PV → PV → Bool
  | .non, .non => true
  | .bl a, .bl b => a == b
  | .bl a, .int b => (if a then 1 else 0) == b
  | .int a, .bl b => a == (if b then 1 else 0)
  | .int a, .int b => a == b
  | .str a, .str b => a == b
  | _, _ => false
def inP (x : PV) (ps : List PV) : Bool := ps.any fun y => eqP y x
/-- a flat value is told by its tree -/
def valP : PV → V
  | .non => .non
  | .bl b => .bl b
  | .int i => .int i
  | .str s => .str s
  | _ => .non
theorem flat_val {H : Hp} {v : V} {p : PV} (h : Rep K CT H v p) (f : flatP p = true) : v = valP p ∧ flatV v = true := by
  cases h <;> first | exact ⟨rfl, rfl⟩ | cases f
theorem flat_vals {H : Hp} : ∀ {vs : List V} {ps : List PV}, Reps K CT H vs ps → ps.all flatP = true → vs = ps.map valP ∧ vs.all flatV = true
  | _, _, .nil, _ => ⟨rfl, rfl⟩
  | _, _, .cons h t, f => by
    rw [List.all_cons, Bool.and_eq_true] at f
    obtain ⟨h1, h2⟩ := flat_val h f.1
    obtain ⟨h3, h4⟩ := flat_vals t f.2
    rw [h1, h3] at *
    exact ⟨rfl, by rw [List.all_cons, h2, h4]; rfl⟩
theorem eq_val {x y : PV} (fx : flatP x = true) (fy : flatP y = true) : eqV (valP y) (valP x) = eqP y x := by
  cases x <;> first | (cases fx; done) | (cases y <;> first | rfl | (cases fy; done))
theorem in_val {x : PV} (fx : flatP x = true) : ∀ {ps : List PV}, ps.all flatP = true → inV (valP x) (ps.map valP) = inP x ps
  | [], _ => rfl
  | p :: ps, f => by
    rw [List.all_cons, Bool.and_eq_true] at f
    have ih := in_val fx f.2
    unfold inV inP at *
    rw [List.map_cons, List.any_cons, List.any_cons, ih, eq_val fx f.1]
def rInSgn : R2 := fun x y H Q => ∃ (c : Nat) (z : Str), x = .str ⟨#[c]⟩ ∧ y = .str z ∧ Q (.bl (decide (c ∈ z.cps.toList))) H
def rNotInSgn : R2 := fun x y H Q => ∃ (c : Nat) (z : Str), x = .str ⟨#[c]⟩ ∧ y = .str z ∧ Q (.bl (!decide (c ∈ z.cps.toList))) H
def rInDct : R2 := fun x y H Q => ∃ a o, y = .ref a ∧ DGet H a x o ∧ Q (.bl o.isSome) H
def rNotInDct : R2 := fun x y H Q => ∃ a o, y = .ref a ∧ DGet H a x o ∧ Q (.bl (!o.isSome)) H
theorem op_inDct {X : Cx} (hu : X.A.units + 1 < cLine) : OpR X (compareOp .In) rInDct := by
  intro pins s σ H x y v u Q I rx ry h
  obtain ⟨a, o, rfl, g, q⟩ := h
  obtain rfl : u = Value.ref a := ry
  exact d_in hu I g rx fun s3 I3 => ⟨.bl _, H, I3, rfl, q⟩
theorem op_notInDct {X : Cx} (hu : X.A.units + 1 < cLine) : OpR X (compareOp .NotIn) rNotInDct := by
  intro pins s σ H x y v u Q I rx ry h
  obtain ⟨a, o, rfl, g, q⟩ := h
  obtain rfl : u = Value.ref a := ry
  exact d_notIn hu I g rx fun s3 I3 => ⟨.bl _, H, I3, rfl, q⟩
def rInP (K : PySem.W.Frag) : R2 := rOr (rIn K false) (rOr rInSgn rInDct)
def rNotInP (K : PySem.W.Frag) : R2 := rOr (rIn K true) (rOr rNotInSgn rNotInDct)
theorem op_inP {X : Cx} (hu : X.A.units + 64 < cLine) : OpR X (compareOp .In) (rInP X.K) := G.OpR.or op_in_seq (G.OpR.or (r := rInSgn) op_in_sign (op_inDct (by omega)))
theorem op_notInP {X : Cx} (hu : X.A.units + 64 < cLine) : OpR X (compareOp .NotIn) (rNotInP X.K) := G.OpR.or op_notIn_seq (G.OpR.or (r := rNotInSgn) op_notIn_sign (op_notInDct (by omega)))
/-- a key -/
def keyP : PV → Option Key
  | .int i => some (.inl i)
  | .str s => some (.inr s)
  | _ => none
def hasK (k : Key) (ks : List Key) : Bool := ks.any fun q => decide (q = k)
/-- is x in y -/
def inB (x y : EV) (μ : Sto) : Option Bool := match x with
  | .v p => (match y with
    | .v (.str z) => (match p with
      | .str s => (match s.cps.toList with
        | [c] => some (decide (c ∈ z.cps.toList))
        | _ => none)
      | _ => none)
    | .v (.dct ks vs) => (match keyP p with
      | some k => some (hasK k ks)
      | none => none)
    | y => (match seqE y μ with
      | some ps => if flatP p && ps.all flatP then some (inP p ps) else none
      | none => none))
  | .c _ => none
def inO : FO := fun x y μ => match inB x y μ with
  | some b => .ok (.v (.bl b)) μ
  | none => .no
def notInO : FO := fun x y μ => match inB x y μ with
  | some b => .ok (.v (.bl (!b))) μ
  | none => .no
theorem valV_zip {k : Key} : ∀ {ks : List Key} {vs : List V}, ks.length = vs.length → (valV (ks.zip vs) k).isSome = hasK k ks
  | [], [], _ => rfl
  | q :: ks, v :: vs, h => by
    unfold hasK
    rw [List.zip_cons_cons, List.any_cons]
    by_cases e : q = k
    · rw [valV_pos e, decide_eq_true e]
      rfl
    · rw [valV_neg e, decide_eq_false e, Bool.false_or, valV_zip (by simpa using h)]
      rfl
theorem str_one {s : Str} {c : Nat} (h : s.cps.toList = [c]) : s = ⟨#[c]⟩ := by
  obtain ⟨cps⟩ := s
  have : cps = #[c] := Array.toList_inj.mp h
  rw [this]
theorem inB_meets {w : Wd} {μ : Sto} {v u : V} {x y : EV} {b : Bool} (r : RelH K CT w μ) (q1 : EVRep K CT w v x) (q2 : EVRep K CT w u y) (h : inB x y μ = some b) : (∀ Q : VK, Q (.bl b) w.H → rInP K v u w.H Q) ∧ ∀ Q : VK, Q (.bl (!b)) w.H → rNotInP K v u w.H Q := by
  unfold inB at h
  split at h
  · rename_i p
    cases q1 with
    | v q1 =>
      split at h
      · split at h
        · split at h
          · rename_i c hc
            cases h
            cases q1
            cases q2 with
            | v q2 =>
              cases q2
              rw [str_one hc]
              exact ⟨fun Q q => .inr (.inl ⟨c, _, rfl, rfl, q⟩), fun Q q => .inr (.inl ⟨c, _, rfl, rfl, q⟩)⟩
          · cases h
        · cases h
      · split at h
        · rename_i ks vs k hk
          cases h
          cases q2 with
          | v q2 => cases q2 with
            | dct hd hl hr =>
              have e : v = kV k := by
                unfold keyP at hk
                split at hk <;> cases hk <;> cases q1 <;> rfl
              subst e
              have hl' := hl.trans hr.length.symm
              exact ⟨fun Q q => .inr (.inr ⟨_, _, rfl, DGet.k (r.s _ _ hd), by rw [valV_zip hl']; exact q⟩), fun Q q => .inr (.inr ⟨_, _, rfl, DGet.k (r.s _ _ hd), by rw [valV_zip hl']; exact q⟩)⟩
        · cases h
      · split at h
        · rename_i ps hs
          split at h
          · rename_i hf
            rw [Bool.and_eq_true] at hf
            cases h
            obtain ⟨a, vs, rfl, hr, hq⟩ := seqE_at r q2 hs
            obtain ⟨e1, f1⟩ := flat_val q1 hf.1
            obtain ⟨e2, f2⟩ := flat_vals hr hf.2
            have e : inV v vs = inP p ps := by rw [e1, e2]; exact in_val hf.1 hf.2
            refine ⟨fun Q q => .inl ⟨a, vs, rfl, hq, f1, f2, ?_⟩, fun Q q => .inl ⟨a, vs, rfl, hq, f1, f2, ?_⟩⟩
            · rw [if_neg Bool.false_ne_true, e]; exact q
            · rw [if_pos rfl, e]; exact q
          · cases h
        · cases h
  · cases h
theorem rop_in : ROp K CT E (rInP K) inO := by
  intro w μ v u x y Q r q1 q2 h
  unfold inO at h
  split at h
  · rename_i b hb
    exact (inB_meets r q1 q2 hb).1 Q (post_ok r (.bl _) h)
  · exact h.elim
theorem rop_notIn : ROp K CT E (rNotInP K) notInO := by
  intro w μ v u x y Q r q1 q2 h
  unfold notInO at h
  split at h
  · rename_i b hb
    exact (inB_meets r q1 q2 hb).2 Q (post_ok r (.bl _) h)
  · exact h.elim
end
end P

set_option Elab.async false
set_option linter.all false
set_option maxRecDepth 100000
set_option maxHeartbeats 4000000
/-! Items of dicts, slices, texts walked, sorted. -/
namespace P
open PySem PySem.Spec L2 G
/-! ### a[b] of anything -/
def rDIx : R2 := fun x y H Q => ∃ a v, x = .ref a ∧ DGet H a y (some v) ∧ Q v H
def rIxAll (K : PySem.W.Frag) : R2 := rOr (rIx K) rDIx
theorem ix_dct {X : Cx} (hu : X.A.units + 1 < cLine) : IxR X rDIx := by
  intro value slice pins s σ H x y v u Q I rx ry h hs
  obtain ⟨a, r, rfl, g, q⟩ := h
  obtain rfl : v = Value.ref a := rx
  exact PyProof.Rows.tail_any (dict_typeIs I g) PySem.F.slot_dict_getitem.lookup (d_getItem hu I g ry fun w' s3 I3 rw' => ⟨r, H, I3, rw', q⟩) hs
theorem ix_all {X : Cx} (hu : X.A.units + 64 < cLine) : IxR X (rIxAll X.K) := ix_seq.or (ix_dct (by omega))
/-- the value at a key -/
def getK (k : Key) : List Key → List PV → Option PV
  | q :: ks, v :: vs => if q = k then some v else getK k ks vs
  | _, _ => none
theorem getK_at {H : Hp} {K : PySem.W.Frag} {CT : Str → Addr} {k : Key} : ∀ {ks : List Key} {vs : List V} {ps : List PV}, Reps K CT H vs ps → (∀ p, getK k ks ps = some p → ∃ v, valV (ks.zip vs) k = some v ∧ Rep K CT H v p) ∧ (ks.length = ps.length → getK k ks ps = none → valV (ks.zip vs) k = none)
  | [], _, _, _ => ⟨fun p e => by simp [getK] at e, fun _ _ => by simp [valV]⟩
  | _ :: _, _, _, .nil => ⟨fun p e => by simp [getK] at e, fun h => by simp at h⟩
  | q :: ks, _, _, .cons h t => by
    obtain ⟨h1, h2⟩ := getK_at (k := k) (ks := ks) t
    unfold getK
    rw [List.zip_cons_cons]
    by_cases e : q = k
    · rw [if_pos e, valV_pos e]
      exact ⟨fun p e' => by cases e'; exact ⟨_, rfl, h⟩, fun _ e' => by cases e'⟩
    · rw [if_neg e, valV_neg e]
      exact ⟨h1, fun hl => h2 (by simpa using hl)⟩
def dctE (x : EV) (μ : Sto) : Option (List Key × List PV) := match x with
  | .v (.dct ks vs) => some (ks, vs)
  | .c k => (match μ[k]? with
    | some (.dct ks vs) => some (ks, vs)
    | _ => none)
  | _ => none
def ixAO : FO := fun x y μ => match dctE x μ with
  | some (ks, vs) => (match y with
    | .v p => (match keyP p with
      | some k => (match getK k ks vs with
        | some r => .ok (.v r) μ
        | none => .no)
      | none => .no)
    | .c _ => .no)
  | none => ixO x y μ
section
variable {K : PySem.W.Frag} {CT : Str → Addr} {E : XK}
theorem dctE_at {w : Wd} {μ : Sto} {v : V} {x : EV} {ks : List Key} {ps : List PV} (r : RelH K CT w μ) (q : EVRep K CT w v x) (h : dctE x μ = some (ks, ps)) : ∃ a vs, v = .ref a ∧ w.H a = some (.dK (ks.zip vs)) ∧ ks.length = ps.length ∧ Reps K CT w.Hs vs ps := by
  unfold dctE at h
  split at h
  · cases h
    cases q with
    | v q => cases q with
      | dct hd hl hr => exact ⟨_, _, rfl, r.s _ _ hd, hl, hr⟩
  · split at h
    · rename_i hk
      cases h
      cases q with
      | c ha =>
        obtain ⟨_, vs, h2, hl, hr⟩ := r.cell _ _ _ hk ha
        exact ⟨_, vs, rfl, h2, hl, hr⟩
    · cases h
  · cases h
theorem keyP_at {w : Wd} {v : V} {p : PV} {k : Key} (q : Rep K CT w.Hs v p) (h : keyP p = some k) : v = kV k := by
  unfold keyP at h
  split at h <;> cases h <;> cases q <;> rfl
theorem rop_ixA : ROp K CT E (rIxAll K) ixAO := by
  intro w μ v u x y Q r q1 q2 h
  unfold ixAO at h
  split at h
  · rename_i ks vs hd
    split at h
    · split at h
      · rename_i k hk
        split at h
        · rename_i p hp
          obtain ⟨a, us, rfl, hH, hl, hr⟩ := dctE_at r q1 hd
          cases q2 with
          | v q2 =>
            rw [keyP_at q2 hk]
            obtain ⟨z, hz, rz⟩ := (getK_at hr).1 p hp
            exact .inr ⟨a, z, rfl, by rw [← hz]; exact DGet.k hH, post_ok r rz h⟩
        · exact h.elim
      · exact h.elim
    · exact h.elim
  · exact .inl (rop_ix w μ v u x y Q r q1 q2 h)
/-! ### slices -/
def RO (K : PySem.W.Frag) (CT : Str → Addr) (E : XK) (t : TO) (f : Env → Sto → Ro (Option Int)) : Prop := ∀ (σ : L2.St) (ρ : Env) (w : Wd) (μ : Sto) (Q : Option Int → Hp → Prop), EnvR K CT w σ ρ → RelH K CT w μ → Post K CT (fun _ b a => b = a) w Q E (f ρ μ) → t σ w.H Q
def noPM : Env → Sto → Ro (Option Int) := fun _ μ => .ok none μ
def partM (f : FE) : Env → Sto → Ro (Option Int) := fun ρ μ => (f ρ μ).bind fun x μ1 => match x with
  | .v (.int i) => .ok (some i) μ1
  | _ => .no
theorem ro_no : RO K CT E tNoPart noPM := fun σ ρ w μ Q e r h => h none w .refl r rfl
theorem ro_part {te : TE} {fe : FE} (he : RE K CT E te fe) : RO K CT E (tPart te) (partM fe) := by
  intro σ ρ w μ Q e r h
  refine he σ ρ w μ _ e r (post_bind h fun x v w1 μ1 e1 r1 q1 h1 => ?_)
  split at h1
  · cases q1 with
    | v q1 => cases q1; exact ⟨_, rfl, h1 _ w1 .refl r1 rfl⟩
  · exact h1.elim
def rSlAll (K : PySem.W.Frag) : V → Option Int → Option Int → Hp → VK → Prop := fun x lo hi H Q => rSlL K x lo hi H Q ∨ (rSlA K x lo hi H Q ∨ rSlS x lo hi H Q)
theorem sl_all {X : Cx} : SlR X (rSlAll X.K) := sl_list.or (sl_tupA.or sl_str)
/-- the items of a list -/
def lstE (x : EV) (μ : Sto) : Option (List PV) := match x with
  | .v (.lst ps) => some ps
  | .v (.frl ps) => some ps
  | .c k => (match μ[k]? with
    | some (.lst ps) => some ps
    | _ => none)
  | _ => none
theorem lstE_at {w : Wd} {μ : Sto} {v : V} {x : EV} {ps : List PV} (r : RelH K CT w μ) (q : EVRep K CT w v x) (h : lstE x μ = some ps) : ∃ a vs, v = .ref a ∧ Reps K CT w.Hs vs ps ∧ SqL K w.H a vs := by
  unfold lstE at h
  split at h
  · cases h
    cases q with
    | v q => cases q with
      | lst hq hr => exact ⟨_, _, rfl, hr, .of (r.s _ _ hq)⟩
  · cases h
    cases q with
    | v q => cases q with
      | frl hq hr => exact ⟨_, _, rfl, hr, r.s.seq hq⟩
  · split at h
    · rename_i hk
      cases h
      cases q with
      | c ha =>
        obtain ⟨_, vs, h2, hr⟩ := r.cell _ _ _ hk ha
        exact ⟨_, vs, rfl, hr, .of h2⟩
    · cases h
  · cases h
def cutP (xs : List PV) (lo hi : Option Int) : List PV := (xs.drop (HT.sIx xs.length 0 lo)).take (HT.sIx xs.length xs.length hi - HT.sIx xs.length 0 lo)
def slO (x : EV) (lo hi : Option Int) (μ : Sto) : Ro EV := match x with
  | .v (.str z) => if z.length ≤ sizeLine then .ok (.v (.str (cutS z lo hi))) μ else .no
  | .v (.tup ps) => .ok (.v (.tup (cutP ps lo hi))) μ
  | x => (match lstE x μ with
    | some ps => .ok (.v (.lst (cutP ps lo hi))) μ
    | none => .no)
def slM (fe : FE) (fl fh : Env → Sto → Ro (Option Int)) : FE := fun ρ μ => (fe ρ μ).bind fun x μ1 => (fl ρ μ1).bind fun lo μ2 => (fh ρ μ2).bind fun hi μ3 => slO x lo hi μ3
theorem Reps.cut {H : Hp} {vs : List V} {ps : List PV} (h : Reps K CT H vs ps) (lo hi : Option Int) : Reps K CT H (cutV vs lo hi) (cutP ps lo hi) := by
  unfold cutV cutP
  rw [h.length]
  exact (h.drop _).take _
theorem re_slice {te : TE} {tl th : TO} {fe : FE} {fl fh : Env → Sto → Ro (Option Int)} (he : RE K CT E te fe) (hl : RO K CT E tl fl) (hh : RO K CT E th fh) : RE K CT E (tSl (rSlAll K) te tl th) (slM fe fl fh) := by
  intro σ ρ w μ Q e r h
  refine he σ ρ w μ _ e r (post_bind h fun x v w1 μ1 e1 r1 q1 h1 => ?_)
  refine hl σ ρ w1 μ1 _ (e.ext e1) r1 (post_bind h1 fun lo lo' w2 μ2 e2 r2 q2 h2 => ?_)
  subst q2
  refine hh σ ρ w2 μ2 _ (e.ext (e1.trans e2)) r2 (post_bind h2 fun hi hi' w3 μ3 e3 r3 q3 h3 => ?_)
  subst q3
  have q1' := q1.ext (e2.trans e3)
  unfold slO at h3
  split at h3
  · split at h3
    · rename_i hz
      cases q1' with
      | v q => cases q; exact .inr (.inr ⟨_, rfl, hz, post_ok r3 (.str _) h3⟩)
    · exact h3.elim
  · cases q1' with
    | v q => cases q with
      | tup hq hr =>
        rename_i ps a vs
        refine .inr (.inl ⟨_, _, rfl, sqT_same r3.s hq, fun hw => ?_, fun hw p hp => ?_⟩)
        · have e : cutP ps lo' hi' = ps := by
            unfold cutP
            rw [hr.length] at hw
            rw [hw.1, hw.2, List.drop_zero, Nat.sub_zero, List.take_length]
          rw [e] at h3
          exact post_ok r3 (.tup hq hr) h3
        · exact post_new r3 (fun H hH s => .tup (.of hH) ((hr.cut _ _).same s)) h3 hp
  · split at h3
    · rename_i ps hs
      obtain ⟨a, vs, rfl, hr, hq⟩ := lstE_at r3 q1' hs
      exact .inl ⟨_, _, rfl, hq, fun p hp => post_new r3 (fun H hH s => .lst hH ((hr.cut _ _).same s)) h3 hp⟩
    · exact h3.elim
/-! ### texts walked -/
def itStrM (fe : FE) : FA := fun ρ μ => (fe ρ μ).bind fun x μ1 => match x with
  | .v (.str s) => .ok (s.cps.toList.map fun c => EV.v (.str ⟨#[c]⟩)) μ1
  | _ => .no
theorem ri_str {te : TE} {fe : FE} (he : RE K CT E te fe) : RI K CT E (iStr te) (itStrM fe) := by
  intro σ ρ w μ Q e r h
  refine he σ ρ w μ _ e r (post_bind h fun x v w1 μ1 e1 r1 q1 h1 => ?_)
  split at h1
  · cases q1 with
    | v q1 =>
      cases q1
      rename_i s
      refine ⟨s, rfl, h1 (Its s) w1 .refl r1 ?_⟩
      intro w' μ' x' r'
      refine ⟨by simp [Its], fun i e he => ?_⟩
      rw [List.getElem?_map] at he
      cases hc : s.cps.toList[i]? with
      | none => rw [hc] at he; cases he
      | some c =>
        rw [hc] at he
        cases he
        rw [Array.getElem?_toList] at hc
        refine ⟨(Array.getElem?_eq_some_iff.mp hc).1, fun y H' hy => ?_⟩
        obtain ⟨rfl, c', h2, rfl⟩ := hy
        rw [hc] at h2
        cases h2
        exact ⟨w', .refl, r', rfl, .v (.str _)⟩
  · exact h1.elim
/-! ### list(d), sorted -/
def rListD : List V → Hp → VK → Prop := fun xs H Q => ∃ (a : Addr) (kvs : List (Key × V)), xs = [.ref a] ∧ Rd H a (.dK kvs) ∧ ∀ p, H p = none → Q (.ref p) (upd H p (.lst (kvs.map fun kv => kV kv.1)))
def rListP (K : PySem.W.Frag) : List V → Hp → VK → Prop := fun xs H Q => rListOf K xs H Q ∨ rListD xs H Q
theorem c_listP {X : Cx} (hc : X.calm = true) : CallR X (.type "list") (rListP X.K) := CallR.or c_listOf (call_listD hc)
def pvK : Key → PV
  | .inl i => .int i
  | .inr s => .str s
theorem pvK_rep {H : Hp} (k : Key) : Rep K CT H (kV k) (pvK k) := by cases k <;> first | exact .int _ | exact .str _
theorem keys_rep {H : Hp} : ∀ {ks : List Key} {vs : List V}, ks.length = vs.length → Reps K CT H ((ks.zip vs).map fun kv => kV kv.1) (ks.map pvK)
  | [], [], _ => .nil
  | k :: ks, v :: vs, h => .cons (pvK_rep k) (keys_rep (by simpa using h))
def listPO : List EV → Sto → Ro EV := fun xs μ => match xs with
  | [x] => (match dctE x μ with
    | some (ks, _) => .ok (.v (.lst (ks.map pvK))) μ
    | none => listO xs μ)
  | _ => .no
theorem rc_listP : RC K CT E (rListP K) listPO := by
  intro w μ vs xs Q r q h
  unfold listPO at h
  split at h
  · split at h
    · rename_i hd
      cases q with
      | cons q1 q2 => cases q2 with
        | nil =>
          obtain ⟨a, us, rfl, hH, hl, hr⟩ := dctE_at r q1 hd
          exact .inr ⟨a, _, rfl, .of hH, fun p hp => post_new r (fun H hH s => .lst hH (keys_rep (hl.trans hr.length.symm))) h hp⟩
    · exact .inl (rc_list w μ _ _ Q r q h)
  · exact h.elim
/-- the order of texts -/
def strLe (a b : Str) : Bool := !ltCps b.cps.toList a.cps.toList
def insS (x : Str) : List Str → List Str
  | [] => [x]
  | y :: r => if strLe x y then x :: y :: r else y :: insS x r
def sortS : List Str → List Str
  | [] => []
  | x :: r => insS x (sortS r)
def insI (x : Int) : List Int → List Int
  | [] => [x]
  | y :: r => if x ≤ y then x :: y :: r else y :: insI x r
def sortI : List Int → List Int
  | [] => []
  | x :: r => insI x (sortI r)
theorem insS_perm (x : Str) : ∀ l, (insS x l).Perm (x :: l)
  | [] => .refl _
  | y :: r => by
    unfold insS
    split
    · exact .refl _
    · exact (List.Perm.cons y (insS_perm x r)).trans (List.Perm.swap x y r)
theorem sortS_perm : ∀ l, (sortS l).Perm l
  | [] => .refl _
  | x :: r => (insS_perm x _).trans (List.Perm.cons x (sortS_perm r))
theorem insI_perm (x : Int) : ∀ l, (insI x l).Perm (x :: l)
  | [] => .refl _
  | y :: r => by
    unfold insI
    split
    · exact .refl _
    · exact (List.Perm.cons y (insI_perm x r)).trans (List.Perm.swap x y r)
theorem sortI_perm : ∀ l, (sortI l).Perm l
  | [] => .refl _
  | x :: r => (insI_perm x _).trans (List.Perm.cons x (sortI_perm r))
theorem strLe_iff {a b : Str} : strLe a b = true ↔ a.cps.toList ≤ b.cps.toList := by
  unfold strLe
  rw [PyProof.Rows.ltCps_eq, Bool.not_eq_true', decide_eq_false_iff_not, List.not_lt]
theorem strLe_total {a b : Str} (h : strLe a b = false) : strLe b a = true := by
  rw [strLe_iff]
  have : ¬ a.cps.toList ≤ b.cps.toList := fun z => by rw [strLe_iff.mpr z] at h; cases h
  exact (List.le_total _ _).resolve_left this
theorem strLe_trans {a b c : Str} (h1 : strLe a b = true) (h2 : strLe b c = true) : strLe a c = true := strLe_iff.mpr (List.le_trans (strLe_iff.mp h1) (strLe_iff.mp h2))
theorem strLe_anti {a b : Str} (h1 : strLe a b = true) (h2 : strLe b a = true) : a = b := by
  have e := List.le_antisymm (strLe_iff.mp h1) (strLe_iff.mp h2)
  obtain ⟨x⟩ := a
  obtain ⟨y⟩ := b
  have : x = y := Array.toList_inj.mp e
  rw [this]
abbrev Asc (l : List Str) : Prop := l.Pairwise fun a b => strLe a b = true
theorem insS_asc {x : Str} : ∀ {l : List Str}, Asc l → Asc (insS x l)
  | [], _ => List.pairwise_singleton _ _
  | y :: r, h => by
    have h1 := List.pairwise_cons.mp h
    unfold insS
    split
    · rename_i hxy
      exact List.pairwise_cons.mpr ⟨fun z hz => (List.mem_cons.mp hz).elim (fun e => e ▸ hxy) fun hz => strLe_trans hxy (h1.1 z hz), h⟩
    · rename_i hxy
      have hyx := strLe_total (by simpa using hxy)
      exact List.pairwise_cons.mpr ⟨fun z hz => ((List.mem_cons.mp ((insS_perm x r).mem_iff.mp hz))).elim (fun e => e ▸ hyx) fun hz => h1.1 z hz, insS_asc h1.2⟩
theorem sortS_asc : ∀ l, Asc (sortS l)
  | [] => .nil
  | x :: r => insS_asc (sortS_asc r)
theorem sorted_asc : ∀ (p : Str) (l : List Str), PyProof.Rows.risingS p l = true → Asc (p :: l)
  | p, [], _ => List.pairwise_singleton _ _
  | p, x :: r, h => by
    have h' : (strLe p x && PyProof.Rows.risingS x r) = true := h
    rw [Bool.and_eq_true] at h'
    have ih := sorted_asc x r h'.2
    refine List.pairwise_cons.mpr ⟨fun z hz => (List.mem_cons.mp hz).elim (fun e => e ▸ h'.1) fun hz => strLe_trans h'.1 ((List.pairwise_cons.mp ih).1 z hz), ih⟩
theorem sortedS_asc {l : List Str} (h : PyProof.Rows.sortedS l = true) : Asc l := by
  cases l with
  | nil => exact .nil
  | cons x r => exact sorted_asc x r h
theorem asc_uniq : ∀ {l m : List Str}, Asc l → Asc m → l.Perm m → l = m
  | [], m, _, _, p => p.symm.eq_nil.symm
  | x :: l, [], _, _, p => absurd p.eq_nil (by simp)
  | x :: l, y :: m, h1, h2, p => by
    have a1 := List.pairwise_cons.mp h1
    have a2 := List.pairwise_cons.mp h2
    have e : x = y := by
      have mx : x ∈ y :: m := p.mem_iff.mp List.mem_cons_self
      have my : y ∈ x :: l := p.mem_iff.mpr List.mem_cons_self
      rcases List.mem_cons.mp mx with e | mx
      · exact e
      · rcases List.mem_cons.mp my with e | my
        · exact e.symm
        · exact strLe_anti (a1.1 y my) (a2.1 x mx)
    subst e
    rw [asc_uniq a1.2 a2.2 p.cons_inv]
theorem sort_uniq {l m : List Str} (h : PyProof.Rows.sortedS m = true) (p : m.Perm l) : m = sortS l := asc_uniq (sortedS_asc h) (sortS_asc l) (p.trans (sortS_perm l).symm)
abbrev AscI (l : List Int) : Prop := l.Pairwise (· ≤ ·)
theorem insI_asc {x : Int} : ∀ {l : List Int}, AscI l → AscI (insI x l)
  | [], _ => List.pairwise_singleton _ _
  | y :: r, h => by
    have h1 := List.pairwise_cons.mp h
    unfold insI
    split
    · rename_i hxy
      exact List.pairwise_cons.mpr ⟨fun z hz => (List.mem_cons.mp hz).elim (fun e => e ▸ hxy) fun hz => Int.le_trans hxy (h1.1 z hz), h⟩
    · rename_i hxy
      exact List.pairwise_cons.mpr ⟨fun z hz => ((List.mem_cons.mp ((insI_perm x r).mem_iff.mp hz))).elim (fun e => by rw [e]; omega) fun hz => h1.1 z hz, insI_asc h1.2⟩
theorem sortI_asc : ∀ l, AscI (sortI l)
  | [] => .nil
  | x :: r => insI_asc (sortI_asc r)
theorem ascI_uniq : ∀ {l m : List Int}, AscI l → AscI m → l.Perm m → l = m
  | [], m, _, _, p => p.symm.eq_nil.symm
  | x :: l, [], _, _, p => absurd p.eq_nil (by simp)
  | x :: l, y :: m, h1, h2, p => by
    have a1 := List.pairwise_cons.mp h1
    have a2 := List.pairwise_cons.mp h2
    have e : x = y := by
      have mx : x ∈ y :: m := p.mem_iff.mp List.mem_cons_self
      have my : y ∈ x :: l := p.mem_iff.mpr List.mem_cons_self
      rcases List.mem_cons.mp mx with e | mx
      · exact e
      · rcases List.mem_cons.mp my with e | my
        · exact e.symm
        · exact Int.le_antisymm (a1.1 y my) (a2.1 x mx)
    subst e
    rw [ascI_uniq a1.2 a2.2 p.cons_inv]
theorem sortI_uniq {l m : List Int} (h : AscI m) (p : m.Perm l) : m = sortI l := ascI_uniq h (sortI_asc l) (p.trans (sortI_perm l).symm)
theorem Reps.strs {H : Hp} : ∀ (ns : List Str), Reps K CT H (ns.map V.str) (ns.map PV.str)
  | [] => .nil
  | _ :: r => .cons (.str _) (Reps.strs r)
def rSortD : List V → Hp → VK → Prop := fun xs H Q => ∃ (a : Addr) (kvs : List (Key × V)) (ks : List Str), xs = [.ref a] ∧ Rd H a (.dK kvs) ∧ kvs.map (·.1) = ks.map Sum.inr ∧ ks.length < 64 ∧
    ∀ ys p, ys.Perm ks → PyProof.Rows.sortedS ys = true → H p = none → Q (.ref p) (upd H p (.lst (ys.map V.str)))
def rSortP (K : PySem.W.Frag) : List V → Hp → VK → Prop := fun xs H Q => rSortedS K xs H Q ∨ (rSorted K xs H Q ∨ rSortD xs H Q)
theorem c_sortP {X : Cx} (hc : X.calm = true) : CallR X (.builtin "sorted") (rSortP X.K) := CallR.or cr_sortedS (CallR.or cr_sorted (call_sortedD hc))
def kstrs : List Key → Option (List Str)
  | [] => some []
  | .inr s :: r => (kstrs r).map (s :: ·)
  | .inl _ :: _ => none
theorem kstrs_eq : ∀ {ks : List Key} {ss : List Str}, kstrs ks = some ss → ks = ss.map Sum.inr
  | [], _, e => by cases e; rfl
  | .inr s :: r, _, e => by
    simp only [kstrs, Option.map_eq_some_iff] at e
    obtain ⟨m, e1, rfl⟩ := e
    rw [kstrs_eq e1]
    rfl
  | .inl _ :: _, _, e => by simp [kstrs] at e
def sortO : List EV → Sto → Ro EV := fun xs μ => match xs with
  | [x] => (match dctE x μ with
    | some (ks, _) => (match kstrs ks with
      | some ss => if ss.length < 64 then .ok (.v (.lst ((sortS ss).map PV.str))) μ else .no
      | none => .no)
    | none => (match lstE x μ with
      | some ps => (match strsOf ps with
        | some ss => if ss.length < 64 then .ok (.v (.lst ((sortS ss).map PV.str))) μ else .no
        | none => (match intsOf ps with
          | some ss => if ss.length < 64 then .ok (.v (.lst ((sortI ss).map PV.int))) μ else .no
          | none => .no))
      | none => .no))
  | _ => .no
theorem rc_sort : RC K CT E (rSortP K) sortO := by
  intro w μ vs xs Q r q h
  unfold sortO at h
  split at h
  · cases q with
    | cons q1 q2 => cases q2 with
      | nil =>
        split at h
        · rename_i hd
          split at h
          · rename_i hk
            split at h
            · rename_i hl
              obtain ⟨a, us, rfl, hH, hlen, hr⟩ := dctE_at r q1 hd
              have ek := kstrs_eq hk
              refine .inr (.inr ⟨a, _, _, rfl, .of hH, ?_, hl, fun ys p hp hs hn => ?_⟩)
              · rw [List.map_fst_zip (by rw [hlen, hr.length]; exact Nat.le_refl _)]
                exact ek
              · rw [sort_uniq hs hp]
                exact post_new r (fun H hH s => .lst hH (Reps.strs _)) h hn
            · exact h.elim
          · exact h.elim
        · split at h
          · rename_i hs0
            obtain ⟨a, us, rfl, hr, hq⟩ := lstE_at r q1 hs0
            split at h
            · rename_i hs
              split at h
              · rename_i hl
                have e := strsOf_eq hr hs
                subst e
                refine .inl ⟨a, _, rfl, hq, hl, fun ys p hp hs hn => ?_⟩
                rw [sort_uniq hs hp]
                exact post_new r (fun H hH s => .lst hH (Reps.strs _)) h hn
              · exact h.elim
            · split at h
              · rename_i hs
                split at h
                · rename_i hl
                  have e := intsOf_eq hr hs
                  subst e
                  refine .inr (.inl ⟨a, _, rfl, hq, hl, fun ys p hp hs hn => ?_⟩)
                  rw [sortI_uniq hs hp]
                  exact post_new r (fun H hH s => .lst hH (Reps.ints _)) h hn
                · exact h.elim
              · exact h.elim
          · exact h.elim
  · exact h.elim
/-! ### xs[::-1] -/
def revM (fe : FE) : FE := fun ρ μ => (fe ρ μ).bind fun x μ1 => match lstE x μ1 with
  | some ps => .ok (.v (.lst ps.reverse)) μ1
  | none => .no
theorem re_revL {te : TE} {fe : FE} (he : RE K CT E te fe) : RE K CT E (tRevL K te) (revM fe) := by
  intro σ ρ w μ Q e r h
  refine he σ ρ w μ _ e r (post_bind h fun x v w1 μ1 e1 r1 q1 h1 => ?_)
  split at h1
  · rename_i hs
    obtain ⟨a, us, rfl, hr, hq⟩ := lstE_at r1 q1 hs
    exact ⟨a, us, rfl, hq, fun p hp => post_new r1 (fun H hH s => .lst hH (hr.reverse.same s)) h1 hp⟩
  · exact h1.elim
/-! ### i += e -/
def augS (i : Nat) (g : Int → Int → Int) (fe : FE) : FS := fun ρ μ => match ρ[i]? with
  | some (some (.v (.int a))) => (fe ρ μ).stm fun y μ1 => (match y with
    | .v (.int b) => .nx (ρ.set i (some (.v (.int (g a b))))) μ1
    | _ => .no)
  | _ => .no
theorem rs_aug {i : Nat} {g : Int → Int → Int} {te : TE} {fe : FE} (he : RE K CT E te fe) : RS K CT E (tAug i te (ipI g)) (augS i g fe) := by
  intro D σ ρ w μ e r h
  unfold augS at h
  split at h
  · rename_i a ha
    obtain ⟨v, h1, h2⟩ := e.get i _ ha
    cases h2 with
    | v h2 =>
      cases h2
      refine ⟨_, h1, he σ ρ w μ _ e r (post_stm h fun x v w1 μ1 e1 r1 q1 h3 => ?_)⟩
      split at h3
      · cases q1 with
        | v q1 =>
          cases q1
          exact ⟨_, _, rfl, rfl, h3 _ w1 .refl r1 ((e.ext e1).set i (.v (.int _)))⟩
      · exact h3.elim
  · exact h.elim
/-! ### methods of values -/
def RMV (K : PySem.W.Frag) (CT : Str → Addr) (E : XK) (T : String) (r : V → List V → Hp → VK → Prop) (o : PV → List EV → Sto → Ro EV) : Prop := ∀ (w : Wd) (μ : Sto) (v : V) (us : List V) (p : PV) (xs : List EV) (Q : VK), RelH K CT w μ → Rep K CT w.Hs v p → EVReps K CT w us xs → Post K CT (EVRep K CT) w Q E (o p xs μ) → r v us w.H Q
/-- the built-in type of a value with methods -/
def tyP : PV → Option String
  | .str _ => some "str"
  | .tup _ => some "tuple"
  | .lst _ => some "list"
  | .dct _ _ => some "dict"
  | _ => none
def bmV (T : String) (o : PV → List EV → Sto → Ro EV) (fo : FE) (fa : FA) : FE := fun ρ μ => (fo ρ μ).bind fun x μ1 => match x with
  | .v p => if tyP p = some T then (fa ρ μ1).bind fun xs μ2 => o p xs μ2 else .no
  | .c _ => .no
end
end P

set_option Elab.async false
set_option linter.all false
set_option maxRecDepth 100000
set_option maxHeartbeats 4000000
/-! sorted(set(xs)) of a list of texts. -/
namespace P
open PySem PySem.Spec L2 G PyProof.Rows
/-- the text of an entry -/
def txt (e : Int × Value) : Str := match e.2 with
  | .str x _ => x
  | _ => Str.empty
def TxtE (P : Program) (w : World) (e : Int × Value) : Prop := ∃ (x : Str) (t : Tok), e.2 = Value.str x t ∧ e.1 = (strKind P w).hash x
/-- the texts of the set at a are those of xs; its table can be walked -/
def TxtSet (P : Program) (w : World) (h : Heap) (a : Addr) (xs : List Str) : Prop :=
  ∃ (o : Obj) (es : Array (Int × Value)) (ep : Nat) (t : SetTable), h.get? a = some o ∧ o.ExactSet ∧ o.data = .set es ep t ∧ (∀ e ∈ es.toList, TxtE P w e) ∧ (es.toList.map txt).Nodup ∧ (∀ x, x ∈ xs ↔ x ∈ es.toList.map txt) ∧
    es.size ≤ xs.length ∧ t.fits es.size = true ∧ Ris t.place.toList ∧ (w.params.followText "set-order" = true ∨ t.led = true)
section
variable {P : Program} {w : World} {A : Around} {E : Value → Shared → Prop} {s : Shared} {a : Addr} {xs : List Str}
theorem txtE_is {e : Int × Value} (g : TxtE P w e) (x : Str) : (strKind P w).is x e.2 = true ↔ txt e = x := by
  obtain ⟨y, t, h1, _⟩ := g
  unfold txt
  rw [h1]
  constructor
  · intro h
    obtain ⟨t', e'⟩ := Value.isStrOf_shape (x := x) (v := Value.str y t) h
    cases e'
    rfl
  · rintro rfl
    exact strKind_is P w y t
theorem txt_elems {l : List (Int × Value)} (g : ∀ e ∈ l, TxtE P w e) : ElemsOf (strKind P w) l := fun e he => by
  obtain ⟨x, t, h1, h2⟩ := g e he
  exact ⟨⟨x, by rw [h1]; exact strKind_is P w x t, h2⟩, by rw [h1]; rfl⟩
theorem TxtSet.move {h h' : Heap} (R : TxtSet P w h a xs) (k : ∀ o, h.get? a = some o → h'.get? a = some o) : TxtSet P w h' a xs := by
  obtain ⟨o, es, ep, t, ho, r⟩ := R
  exact ⟨o, es, ep, t, k o ho, r⟩
/-- the writes behind an addition -/
theorem txt_tail {g : Bool → Sem Unit} (hg : ∀ (b : Bool) (s₁ : Shared) (Q' : Unit → Shared → Prop), Q' () s₁ → wpAny (model P w) A (g b) Q' E s₁)
    {o : Obj} {es es1 : Array (Int × Value)} {ep : Nat} {t t2 : SetTable} (ho : s.heap.get? a = some o) (hex : o.ExactSet) (hd : o.data = .set es ep t) (g1 : ∀ e ∈ es1.toList, TxtE P w e) (nd1 : (es1.toList.map txt).Nodup)
    (m1 : ∀ x, x ∈ xs ↔ x ∈ es1.toList.map txt) (hz : es1.size ≤ xs.length) (hb : es1.size < scanBound) (hf : t2.fits es1.size = true) (hr : Ris t2.place.toList) (hl : w.params.followText "set-order" = true ∨ t2.led = true) {wd : Bool} {R : Option Bool → Shared → Prop}
    (hR : ∀ h', Heap.SameBut a s.heap h' → TxtSet P w h' a xs → R (some true) { s with heap := h' }) :
    wpAny (model P w) A (do
        storeSet a es1 t2
        if (!wd && t2.tooFull) = true then do
            g (relayAll t2 es1 (SetTable.grown es1.size)).2.2
            storeSet a (relayAll t2 es1 (SetTable.grown es1.size)).1 (relayAll t2 es1 (SetTable.grown es1.size)).2.1
            pure (some true)
          else pure (some true)) R E s := by
  refine wpAny_bind (wpAny_storeSet_of ho hd ?_ (fits_of_scanBound hb))
  have p1 := store_at (es' := es1) (t' := t2) ho hd
  have c1 := Heap.SameBut.update s.heap a (Obj.putSet es1 t2)
  split
  · have pm := relayAll_perm t2 es1 (SetTable.grown es1.size)
    have f3 := relayAll_fits t2 es1 (SetTable.grown es1.size)
    have r3 := relayAll_ris t2 es1 (SetTable.grown es1.size)
    have l3 := relayAll_led t2 es1 (SetTable.grown es1.size)
    generalize relayAll t2 es1 (SetTable.grown es1.size) = Z at pm f3 r3 l3 ⊢
    obtain ⟨es2, t3, gave⟩ := Z
    dsimp only at pm f3 r3 l3 ⊢
    have hsz : es2.size = es1.size := by rw [← Array.length_toList, pm.length_eq, Array.length_toList]
    refine wpAny_bind (hg _ _ _ (wpAny_bind (wpAny_storeSet_of p1 rfl ?_ (fits_of_scanBound (by rw [hsz]; exact hb)))))
    have p2 := store_at (es' := es2) (t' := t3) p1 rfl
    refine wpAny_pure (hR _ (c1.trans (Heap.SameBut.update _ a _)) ⟨_, es2, _, t3, p2, hex, rfl, fun e he => g1 e (pm.mem_iff.mp he), (pm.map txt).nodup_iff.mpr nd1, fun x => (m1 x).trans (pm.map txt).mem_iff.symm, by rw [hsz]; exact hz, f3, r3, hl.imp id fun z => by rw [l3]; exact z⟩)
  · exact wpAny_pure (hR _ c1 ⟨_, es1, _, t2, p1, hex, rfl, g1, nd1, m1, hz, hf, hr, hl⟩)
/-- a text is added -/
theorem txt_add {x : Str} {tk : Tok} {Q : Bool → Shared → Prop} (R : TxtSet P w s.heap a xs) (room : xs.length + 1 < scanBound)
    (hQ : ∀ b h', Heap.SameBut a s.heap h' → TxtSet P w h' a (xs ++ [x]) → Q b { s with heap := h' }) : wpAny (model P w) A (setAddHashed a (.str x tk) ((strKind P w).hash x)) Q E s := by
  obtain ⟨o, es, ep, t, ho, hex, hd, g, nd, hm, hz, hf, hr, hl⟩ := R
  have hkey : (strKind P w).is x (.str x tk) = true := strKind_is P w x tk
  have hsc : (Value.str x tk).scannable = true := rfl
  have hb : es.size < scanBound := by omega
  have hel : ElemsOf (strKind P w) es.toList := txt_elems g
  unfold setAddHashed setAddHashedIn
  refine wpAny_holding (wpAny_bind (wpAny_setState_of ho hd hf ?_))
  dsimp only
  rw [byScan_of hsc hb hel]
  simp only [↓reduceIte]
  unfold setAddByScan
  refine wpAny_bind (wpAny_bind (wpAny_rule (wpAny_bind (wpAny_setScan_of hkey ho hd hf hel ?_))))
  cases hfi : List.findIdx? (fun e => (strKind P w).is x e.2) es.toList with
  | some j =>
    dsimp only
    obtain ⟨hj, pj, _⟩ := List.findIdx?_eq_some_iff_getElem.mp hfi
    have hx : x ∈ es.toList.map txt := List.mem_map.mpr ⟨_, List.getElem_mem hj, (txtE_is (g _ (List.getElem_mem hj)) x).mp pj⟩
    refine wpAny_pure (wpAny_pure (hQ _ s.heap (Heap.SameBut.refl a s.heap) ⟨o, es, ep, t, ho, hex, hd, g, nd, fun y => ?_, by rw [List.length_append]; omega, hf, hr, hl⟩))
    rw [List.mem_append, List.mem_singleton, ← hm y]
    exact ⟨fun z => z.elim id fun e => by rw [e, hm x]; exact hx, .inl⟩
  | none =>
    dsimp only
    have hx : x ∉ es.toList.map txt := fun z => by
      obtain ⟨e, he, q⟩ := List.mem_map.mp z
      have c := List.findIdx?_eq_none_iff.mp hfi e he
      rw [(txtE_is (g e he) x).mpr q] at c
      cases c
    have hgw : ∀ (b : Bool) {s₁ : Shared} {Q' : Unit → Shared → Prop}, Q' () s₁ → wpAny (model P w) A (match b with | true => rule "set.scan.the-table-gave-way" | false => pure ()) Q' E s₁ :=
      fun b s₁ Q' q => by cases b <;> first | exact wpAny_pure q | exact wpAny_rule q
    have pm := layNew_perm t es ((strKind P w).hash x) (.str x tk)
    have f1 := layNew_fits t es ((strKind P w).hash x) (.str x tk)
    have r1 := layNew_ris t es ((strKind P w).hash x) (.str x tk) hr
    have l1 := layNew_led t es ((strKind P w).hash x) (.str x tk)
    generalize layNew t es ((strKind P w).hash x) (.str x tk) = Z at pm f1 r1 l1 ⊢
    obtain ⟨es1, t1, wd, gave⟩ := Z
    dsimp only at pm f1 r1 l1 ⊢
    rw [Array.toList_push] at pm
    have pc : es1.toList.Perm (((strKind P w).hash x, Value.str x tk) :: es.toList) := pm.trans (List.perm_append_singleton _ _)
    have pk : (es1.toList.map txt).Perm (x :: es.toList.map txt) := pc.map txt
    have g1 : ∀ e ∈ es1.toList, TxtE P w e := fun e he => (List.mem_cons.mp (pc.mem_iff.mp he)).elim (fun z => by rw [z]; exact ⟨x, tk, rfl, rfl⟩) (g e)
    have nd1 : (es1.toList.map txt).Nodup := pk.nodup_iff.mpr (List.nodup_cons.mpr ⟨hx, nd⟩)
    have m1 : ∀ y, y ∈ xs ++ [x] ↔ y ∈ es1.toList.map txt := fun y => by
      rw [pk.mem_iff, List.mem_cons, List.mem_append, List.mem_singleton, hm y]
      exact Or.comm
    have hsz : es1.size = es.size + 1 := by rw [← Array.length_toList, pc.length_eq, List.length_cons, Array.length_toList]
    have hz1 : es1.size ≤ (xs ++ [x]).length := by rw [hsz, List.length_append]; simp; omega
    have hb1 : es1.size < scanBound := by omega
    have led : w.params.followText "set-order" = true ∨ t1.led = true := hl.imp id fun z => by rw [l1]; exact z
    refine wpAny_bind (hgw _ ?_)
    split
    · refine wpAny_bind ?_
      rw [hashByValue_scannable 8 hsc]
      refine wpAny_pure ?_
      refine txt_tail ?_ ho hex hd g1 nd1 m1 hz1 hb1 ?_ ?_ ?_ ?_
      · intro b s₁ Q' q; cases b <;> first | exact wpAny_pure q | exact wpAny_rule q
      · first | (split <;> first | exact f1 | exact SetTable.fits_plain_off f1) | exact f1
      · first | (split <;> exact r1) | exact r1
      · first | (split <;> exact led) | exact led
      · intro h' sb r; dsimp only; exact wpAny_pure (hQ _ h' sb r)
    · refine wpAny_bind (wpAny_pure ?_)
      simp only [↓reduceIte]
      refine txt_tail ?_ ho hex hd g1 nd1 m1 hz1 hb1 f1 r1 led ?_
      · intro b s₁ Q' q; cases b <;> first | exact wpAny_pure q | exact wpAny_rule q
      · intro h' sb r; dsimp only; exact wpAny_pure (hQ _ h' sb r)
theorem txt_fresh {h : Heap} (ho : h.get? a = some { cls := .type "set", dict := none, data := .set #[] 0 (.fresh 0 0 (!w.params.followText "set-order")) }) : TxtSet P w h a [] :=
  ⟨_, #[], 0, _, ho, ⟨rfl, rfl, rfl⟩, rfl, (fun e he => by simp at he), (by simp), (fun k => by simp), (by simp), (by rfl), List.Pairwise.nil, by
    show _ ∨ (!w.params.followText "set-order") = true
    cases w.params.followText "set-order"
    · exact .inr rfl
    · exact .inl rfl⟩
/-- the loop that adds all -/
theorem txt_update {I : Addr} {fp wr : List Addr} {G : Array GenState → Array GenState → Prop} {n : Nat} {Pv : Nat → Value → Prop} {St : Nat → Shared → Prop} {R : Result → Shared → Prop}
    (W : WalksS P w A.in1 I fp wr G n Pv St) (S : Addr) (hSf : S ∉ fp) (ns : List Str) (hn : n = ns.length) (hb : ns.length + 1 < scanBound) (hval : ∀ i v, Pv i v → ∃ k t, ns[i]? = some k ∧ v = .str k t) :
    ∀ (k i : Nat) (s : Shared), n - i = k → i ≤ n → St i s → TxtSet P w s.heap S (ns.take i) →
      (∀ s', Moved (S :: wr) G s s' → TxtSet P w s'.heap S ns → R (.ok (.ret .none)) s') →
      codeAny (model P w) A (.builtin "set.update.loop" ⟨[.ref S, .ref I], []⟩) R s := by
  have hSw : S ∉ wr := fun h => hSf (W.sub _ h)
  have hsub : ∀ b ∈ wr, b ∈ S :: wr := fun b hb => List.mem_cons_of_mem _ hb
  intro k
  induction k with
  | zero =>
    intro i s hk' hi hst hS hR
    have hin : i = n := by omega
    subst hin
    refine codeAny_builtin F.entry_set_update_loop ?_
    rw [Around.under_plainId F.plain_set_update_loop _]
    show wpAny _ A.in1 (pyNext (.ref I) >>= _) _ _ s
    refine wpAny_bind (W.done s _ _ hst fun s' hm => ?_)
    show wpAny _ A.in1 (ret Value.none) _ _ s'
    have e : ns.take i = ns := List.take_of_length_le (by omega)
    rw [e] at hS
    exact wpAny_pure (hR s' (hm.mono hsub) (hS.move fun o e => hm.heap S o hSw e))
  | succ k ih =>
    intro i s hk' hi hst hS hR
    have hlt : i < n := by omega
    refine codeAny_builtin F.entry_set_update_loop ?_
    rw [Around.under_plainId F.plain_set_update_loop _]
    show wpAny _ A.in1 (pyNext (.ref I) >>= _) _ _ s
    refine wpAny_bind (W.item i s _ _ hlt hst fun v s' hP hst' hm => ?_)
    obtain ⟨z, t, hz, rfl⟩ := hval i v hP
    have hS' : TxtSet P w s'.heap S (ns.take i) := hS.move fun o e => hm.heap S o hSw e
    show wpAny _ A.in1 (holding [Value.str z t] (setAdd S (.str z t)) >>= _) _ _ s'
    refine wpAny_bind (wpAny_holding ?_)
    unfold setAdd
    refine wpAny_holding ?_
    refine wpAny_bind ((strKind P w).pyHash (k := z) (strKind_is _ _ _ _) ?_)
    refine txt_add (s := { s' with toks := s'.toks + 1 }) hS' (by rw [List.length_take]; omega) fun bb h' hsb hS2 => ?_
    have e : ns.take i ++ [z] = ns.take (i + 1) := by rw [List.take_add_one, hz]; rfl
    rw [e] at hS2
    refine wpAny_pure ⟨plainId_quiet F.plain_set_update_loop _, ih (i + 1) _ (by omega) hlt (W.frame _ s' _ _ hst' (Nat.le_succ _) fun b hb o e => ?_) hS2 fun s'' hm'' hS'' => ?_⟩
    · rw [hsb.2 b (fun h : b = S => hSf (by rw [← h]; exact hb))]; exact e
    · refine hR s'' (Moved.trans W.gtrans ((hm.mono hsub).then_heap (Nat.le_succ _) fun b o hb e => ?_) hm'') hS''
      rw [hsb.2 b (fun h : b = S => hb (by rw [h]; exact List.mem_cons_self))]; exact e
set_option maxHeartbeats 3200000 in
/-- set(xs) -/
theorem txt_set {l : Addr} {items : Array Value} (ns : List Str) {Q : Value → Shared → Prop} (hh : A.handled = none) (hl : s.heap.IsList l items) (hit : StrsAre items.toList ns) (hb : ns.length + 1 < scanBound)
    (h : ∀ (h' : Heap) (tk : Nat), TxtSet P w h' s.heap.objs.size ns → (∀ b o, s.heap.get? b = some o → h'.get? b = some o) → Q (.ref s.heap.objs.size) { s with heap := h', toks := tk }) :
    wpAny (model P w) A (call (.type "set") [.ref l]) Q E s := by
  have hisz : items.size = ns.length := by rw [← StrsAre.len_eq hit, Array.length_toList]
  obtain ⟨c, tl, hmro⟩ := F.called_set.mro
  have hmade := F.called_set.made
  have hsub := F.called_set.sub
  refine wpAny_call (codeAny_of_tree ?_)
  show wpAny _ _ (callAny (.type "set") _) _ _ _
  refine wpAny_pure ⟨Code.quiet_builtin _ (by decide +kernel), codeAny_builtin F.entry_type_call ?_⟩
  rw [Around.under_plain (weight_type_call_type "set" [.ref l] []) rfl]
  have h1 := F.called_set.notType
  have h2 := F.called_set.canCreate
  have hct := F.typeCall_set_1 (.ref l)
  repeat (any_goals (first | assumption | wp_step))

  refine codeAny_mono (code_set_led1 (.ref l) (E := E) (Q₁ := fun obj s₁ => obj = .ref s.heap.objs.size ∧ s₁ = { s with heap := s.heap.push { cls := .type "set", dict := none, data := .set #[] 0 (.fresh 0 0 (!w.params.followText "set-order")) } }) ⟨rfl, rfl⟩) fun r s₁ hr => ?_
  cases r with
  | error e => exact hr
  | ok fl =>
    cases fl with
    | ret obj =>
      obtain ⟨rfl, rfl⟩ := hr
      have hS : (s.heap.push { cls := .type "set", dict := none, data := .set #[] 0 (.fresh 0 0 (!w.params.followText "set-order")) }).get? s.heap.objs.size = some { cls := .type "set", dict := none, data := .set #[] 0 (.fresh 0 0 (!w.params.followText "set-order")) } := Heap.get?_push_size _ rfl
      have hT : Shared.TypeIs { s with heap := s.heap.push { cls := .type "set", dict := none, data := .set #[] 0 (.fresh 0 0 (!w.params.followText "set-order")) } } (.ref s.heap.objs.size) "set" := ⟨_, hS, rfl⟩
      have hli := F.called_set.init.lookup
      have hbi := F.called_set.init.bind (.ref s.heap.objs.size)
      repeat (any_goals (first | assumption | wp_step))

      refine codeAny_mono (codeAny_call_builtin (R := wants (fun r s₂ => r = .none ∧ ∃ h' tk, s₂ = { s with heap := h', toks := tk } ∧ TxtSet P w h' s.heap.objs.size ns ∧ (∀ b o, s.heap.get? b = some o → h'.get? b = some o)) E) F.called_set.init.plain F.entry_set_init (check_set_init_1 hT ?_)) fun r₂ s₂ hr₂ => ?_
      · obtain ⟨ol, hol, hcl, nl, hdl⟩ := hl
        obtain ⟨ocls, odict, odata, oslots⟩ := ol
        simp only at hcl hdl
        subst hcl; subst hdl
        have hol' : (s.heap.push { cls := .type "set", dict := none, data := .set #[] 0 (.fresh 0 0 (!w.params.followText "set-order")) }).get? l = some { cls := .type "list", dict := odict, data := .seq items nl, slots := oslots } := Heap.get?_push_of_some _ hol
        have hsls := F.sub_list_set
        have hslf := F.sub_list_frozenset
        have hne : (Value.type "list" == Value.type "dict") = false := by decide
        have hl1 : (s.heap.push { cls := .type "set", dict := none, data := .set #[] 0 (.fresh 0 0 (!w.params.followText "set-order")) }).IsList l items := ⟨_, hol', rfl, nl, rfl⟩
        unfold Builtin.«set.__init__» noKeywords Builtin.Frozenset.updateFrom
        generalize hPI : pyIter = PI
        wp_walk
        subst hPI

        refine wpAny_pyIter_list hl1 ?_
        refine wpAny_bind (wpAny_runValue ?_)
        have hlS : l < s.heap.objs.size := Heap.lt_size hol
        have hh3 : A.in1.in1.in1.handled = none := by simp [hh]
        have hneI : l ≠ (s.heap.push { cls := .type "set", dict := none, data := .set #[] 0 (.fresh 0 0 (!w.params.followText "set-order")) }).objs.size := by
          rw [Heap.size_push]; exact Nat.ne_of_lt (Nat.lt_succ_of_lt hlS)
        have hSf : s.heap.objs.size ∉ [(s.heap.push { cls := .type "set", dict := none, data := .set #[] 0 (.fresh 0 0 (!w.params.followText "set-order")) }).objs.size, l] := by
          rw [Heap.size_push]; simp only [List.mem_cons, List.mem_singleton, List.not_mem_nil, or_false, not_or]
          exact ⟨Nat.ne_of_lt (Nat.lt_succ_self _), Nat.ne_of_gt hlS⟩
        have hval : ∀ (i : Nat) (v : Value), items[i]? = some v → ∃ k t, ns[i]? = some k ∧ v = .str k t := fun i v hv => by
          have hi : i < ns.length := by rw [← hisz]; exact (Array.getElem?_eq_some_iff.mp hv).1
          obtain ⟨t, e⟩ := SS.strs_at hit i v (by rw [Array.getElem?_toList]; exact hv)
          refine ⟨ns[i], t, List.getElem?_eq_getElem hi, ?_⟩
          rw [e, List.getD_eq_getElem?_getD, List.getElem?_eq_getElem hi] <;> rfl
        refine txt_update ((Walks.list hh3 _ l hneI items).toS) s.heap.objs.size
          hSf ns hisz hb hval (items.size - 0) 0 _ (by omega) (Nat.zero_le _)
          ⟨⟨_, Heap.get?_push_size _ rfl, rfl, rfl⟩, (hl1.push _)⟩ ?hS0 ?hR
        case hS0 =>
          exact txt_fresh (Heap.get?_push_of_some _ hS)
        case hR =>
          intro s' hm hS'
          obtain ⟨h', g2, d', tk', os'⟩ := s'
          have eg : g2 = s.gens := hm.gens
          have ed : d' = s.drawn := hm.drawn
          have eo : os' = s.os := hm.os
          subst eg; subst ed; subst eo
          show wpAny _ _ _ _ _ _
          refine wpAny_pure ?_
          show wpAny _ _ (ret Value.none) _ _ _
          refine wpAny_pure ⟨rfl, h', tk', rfl, hS', fun b o e => ?_⟩
          have hb0 : b < s.heap.objs.size := Heap.lt_size e
          have hb1 : b ≠ s.heap.objs.size := Nat.ne_of_lt hb0
          have hb2 : b ≠ (s.heap.push { cls := .type "set", dict := none, data := .set #[] 0 (.fresh 0 0 (!w.params.followText "set-order")) }).objs.size := by
            rw [Heap.size_push]; exact Nat.ne_of_lt (Nat.lt_succ_of_lt hb0)
          exact hm.heap b o (by simp only [List.mem_cons, List.mem_singleton, List.not_mem_nil, or_false, not_or]; exact ⟨hb1, hb2⟩) (Heap.get?_push_of_some _ (Heap.get?_push_of_some _ e))
      · cases r₂ with
        | error e => exact hr₂
        | ok fl₂ =>
          cases fl₂ with
          | ret r =>
            obtain ⟨rfl, h', tk, rfl, hS', hk'⟩ := hr₂
            repeat (any_goals (first | assumption | wp_step))
            exact h _ _ hS' hk'
          | _ => exact hr₂.elim
    | _ => exact hr.elim
theorem strs_of : ∀ (l : List Value), (∀ v ∈ l, ∃ x t, v = Value.str x t) → ∃ xs, StrsAre l xs ∧ ∀ e : List (Int × Value), e.map (·.2) = l → e.map txt = xs
  | [], _ => ⟨[], .nil, fun e h => by rw [List.map_eq_nil_iff.mp h]; rfl⟩
  | v :: l, h => by
    obtain ⟨x, t, rfl⟩ := h v List.mem_cons_self
    obtain ⟨xs, h1, h2⟩ := strs_of l fun u hu => h u (List.mem_cons_of_mem _ hu)
    refine ⟨x :: xs, .cons x t h1, fun e he => ?_⟩
    cases e with
    | nil => simp at he
    | cons p r =>
      rw [List.map_cons] at he ⊢
      injection he with e1 e2
      rw [h2 r e2]
      unfold txt
      rw [e1]
end
end P

set_option Elab.async false
set_option linter.all false
set_option maxRecDepth 100000
set_option maxHeartbeats 4000000
namespace P
open PySem PySem.Spec L2 G PyProof.Rows
/-- each text once, in order -/
def uniqS (xs : List Str) : List Str := (sortS xs).foldr (fun x r => match r with
  | y :: _ => if x = y then r else x :: r
  | [] => [x]) []
def undup : List Str → List Str
  | [] => []
  | x :: r => let m := undup r; if m.contains x then m else x :: m
theorem mem_undup {x : Str} : ∀ {l : List Str}, x ∈ undup l ↔ x ∈ l
  | [] => Iff.rfl
  | y :: r => by
    unfold undup
    have ih := mem_undup (x := x) (l := r)
    dsimp only
    split
    · rename_i h
      rw [ih]
      refine ⟨fun z => List.mem_cons_of_mem _ z, fun z => (List.mem_cons.mp z).elim (fun e => ?_) id⟩
      rw [e]
      exact mem_undup.mp (by simpa using h)
    · rw [List.mem_cons, List.mem_cons, ih]
theorem nodup_undup : ∀ l : List Str, (undup l).Nodup
  | [] => .nil
  | y :: r => by
    unfold undup
    dsimp only
    split
    · exact nodup_undup r
    · rename_i h
      exact List.nodup_cons.mpr ⟨by simpa using h, nodup_undup r⟩
/-- sorted(set(xs)) -/
def sortU (xs : List Str) : List Str := sortS (undup xs)
theorem perm_of_mem {l m : List Str} (h1 : l.Nodup) (h2 : m.Nodup) (h : ∀ x, x ∈ l ↔ x ∈ m) : l.Perm m := by
  induction l generalizing m with
  | nil =>
    have : m = [] := List.eq_nil_iff_forall_not_mem.mpr fun x hx => by simpa using (h x).mpr hx
    rw [this]
  | cons x l ih =>
    have hx : x ∈ m := (h x).mp List.mem_cons_self
    have a1 := List.nodup_cons.mp h1
    have p := List.perm_cons_erase hx
    refine (List.Perm.cons x (ih a1.2 (h2.erase x) fun y => ?_)).trans p.symm
    rw [List.Nodup.mem_erase_iff h2, ← h y, List.mem_cons]
    exact ⟨fun hy => ⟨fun e => a1.1 (e ▸ hy), .inr hy⟩, fun ⟨n, z⟩ => z.resolve_left n⟩
section
variable {P : Program} {w : World} {A : Around} {E : Value → Shared → Prop} {s : Shared} {a : Addr} {xs : List Str}
theorem sorted_txt {Q : Value → Shared → Prop} (R : TxtSet P w s.heap a xs) (hh : A.handled = none) (h64 : xs.length < 64)
    (hQ : ∀ s' p (out : Array Value) (c : Nat), (∀ b o, s.heap.get? b = some o → s'.heap.get? b = some o) → s'.gens = s.gens → s'.os = s.os → s.heap.objs.size ≤ p →
      s'.heap.get? p = some (seqObj "list" out c) → StrsAre out.toList (sortU xs) → Q (.ref p) s') :
    wpAny (model P w) A (call (.builtin "sorted") [.ref a]) Q E s := by
  obtain ⟨o, es, ep, t, ho, hex, hd, g, nd, hm, hz, hf, hr, hl⟩ := R
  have hb : es.size < scanBound := Nat.lt_of_le_of_lt (Nat.le_of_lt (Nat.lt_of_le_of_lt hz h64)) (by decide)
  refine Calls.call_function_entry kind_sorted plain_sorted entry_sorted (args_sorted1 _) ?_
  unfold Builtin.«sorted»
  refine wpAny_bind (m := checkCount "sorted" 1 1 _) (wpAny_pure ?_)
  refine wpAny_bind (collect_set (A := A.in1) hh ⟨o, ho, hex.1, hd⟩ hf hb hr hl fun s1 vs k1 hz1 g1 o1 pm => ?_)
  have hvl : vs.length = es.size := by rw [pm.length_eq, List.length_map, Array.length_toList]
  have h64' : vs.length < 64 := by omega
  obtain ⟨ss, hS, _⟩ := strs_of vs fun v hv => by
    obtain ⟨e, he, q⟩ := List.mem_map.mp (pm.mem_iff.mp hv)
    obtain ⟨k, tk, h1, _⟩ := g e he
    exact ⟨k, tk, by rw [← q]; exact h1⟩
  have pk : ss.Perm (es.toList.map txt) := by
    have e1 : ss = vs.map strOf := hS.strs.symm
    have e2 : es.toList.map txt = (es.toList.map (·.2)).map strOf := by
      rw [List.map_map]
      apply List.map_congr_left
      intro e he
      obtain ⟨k, tk, h1, _⟩ := g e he
      show txt e = strOf e.2
      unfold txt
      rw [h1]
      rfl
    rw [e1, e2]
    exact pm.map strOf
  refine wpAny_bind (wpAny_newList ?_ (by rw [sizeLine_eq]; omega))
  have hoL : (s1.heap.push (seqObj "list" vs.toArray 0)).get? s1.heap.objs.size = some (seqObj "list" vs.toArray 0) := Heap.get?_push_size _ rfl
  refine wpAny_bind (wpAny_holding (wpAny_call_entry slot_list_sort ⟨_, hoL, rfl⟩ entry_list_sort
    (list_sort_treeK strKind_oneLt (s := { s1 with heap := s1.heap.push (seqObj "list" vs.toArray 0) }) hoL hS.keysOf (fun v₁ v₂ rest e => keyKind_strs (by rw [← e]; exact hS)) h64' fun st' hp hs => ⟨_, rfl, ?_⟩)
    (args_list_sort _)))
  obtain ⟨ys, y1, y2, y3⟩ := sorted_out_str hS hp hs
  obtain ⟨c, hc⟩ := sortedHeap_at (vs := vs) (out := (arrOf st').map (·.2)) hoL
  have ey : ys = sortU xs := by
    have p1 : ys.Perm (es.toList.map txt) := y2.trans pk
    have p2 : (es.toList.map txt).Perm (undup xs) := perm_of_mem nd (nodup_undup xs) fun x => by rw [mem_undup, hm x]
    exact sort_uniq y3 (p1.trans p2)
  rw [ey] at y1
  refine wpAny_pure ⟨_, rfl, hQ _ s1.heap.objs.size _ c (fun b u e => ?_) g1 o1 hz1 hc y1⟩
  have q := k1 b u e
  have hlt := Heap.lt_size q
  show (sortedHeap (s1.heap.push (seqObj "list" vs.toArray 0)) s1.heap.objs.size vs _).get? b = some u
  rw [sortedHeap_old (Nat.ne_of_lt hlt) (by rw [size_push']; exact Nat.lt_succ_of_lt hlt)]
  exact Heap.get?_push_of_some _ q
end
/-- sorted(set(xs)) of a list of fewer than 64 texts -/
def tSortSet (K : PySem.W.Frag) (ta : TE) : TE := fun σ H Q => ta σ H fun x H1 => ∃ l, ∃ xs : List Str, x = .ref l ∧ SqL K H1 l (xs.map V.str) ∧ xs.length < 64 ∧ ∀ p, H1 p = none → Q (.ref p) (upd H1 p (.lst ((sortU xs).map V.str)))
theorem sortU_len (xs : List Str) : (sortU xs).length ≤ xs.length := by
  unfold sortU
  rw [(sortS_perm _).length_eq]
  induction xs with
  | nil => exact Nat.le_refl _
  | cons x r ih =>
    unfold undup
    dsimp only
    split
    · exact Nat.le_succ_of_le ih
    · exact Nat.succ_le_succ ih
theorem vals_strs : ∀ {us : List Value} {xs : List Str}, StrsAre us xs → Vals (xs.map V.str) us
  | _, _, .nil => .nil
  | _, _, .cons x t r => .cons ⟨t, rfl⟩ (vals_strs r)
theorem pe_sortSet {X : Cx} {a : Expr} {ta : TE} {p p2 q pos : Pos} (hc : X.calm = true) (hg : Gl X "sorted") (hm : X.mg "sorted" = none) (hg2 : Gl X "set") (hm2 : X.mg "set" = none) (ha : PE X a ta)
    (na : starEach [a] X.env = (false, eval a X.env) :: starEach [] X.env := by rfl) : PE X (.Call (.Name "sorted" p) [.Call (.Name "set" p2) [a] [] q] [] pos) (tSortSet X.K ta) := by
  refine ⟨fun pins s σ H Q I h => ?_⟩
  refine Call_ (ld_blt I hg hm bt_sorted ?_)
  refine PyProof.Rows.callWith_builtin1 (PyProof.Rows.args_cons ?_ rfl) rfl rfl
  refine Call_ (ld_blt I hg2 hm2 boot_set ?_)
  refine PyProof.Rows.callWith_type1 (PyProof.Rows.args_cons (thn (ha.run pins s σ H _ I h) fun v s1 ⟨x, H1, I1, r1, q1⟩ => PyProof.Rows.args_nil ?_) na) na rfl
  obtain ⟨l, xs, rfl, hq, h64, q1⟩ := q1
  cases r1
  obtain ⟨its, r, pl, hz⟩ := I1.list hq
  refine txt_set xs (I1.ok.hd hc) pl.isList (by simpa using strsAre_of r) (Nat.lt_of_le_of_lt (Nat.succ_le_of_lt h64) (by decide)) fun h' tk hS hk => ?_
  refine PyProof.Rows.args_nil ?_
  have I2 : Inv X pins σ H1 { s1 with heap := h', toks := tk } := I1.kept hk
  refine sorted_txt (s := { s1 with heap := h', toks := tk }) hS (I1.ok.hd hc) h64 fun s' b out c k g o hb hg hi => ?_
  have hn : H1 b = none := I2.hok.fresh hb
  have hlen : ((sortU xs).map V.str).length ≤ sizeLine := by
    rw [List.length_map, sizeLine_eq]
    have := sortU_len xs
    omega
  have J : Inv X pins σ (upd H1 b (.lst ((sortU xs).map V.str))) s' :=
    I2.call' (ch := []) o (Un.laid k hb hn) (I2.hok.laid k hb ⟨hlen, out.toList, c, vals_strs hi, hg⟩) (by rw [g]; exact I2.bare) (fun _ z => nomatch z)
  exact ⟨.ref b, _, J, rfl, q1 b hn⟩
def sortSetM (fe : FE) : FE := fun ρ μ => (fe ρ μ).bind fun x μ1 => match lstE x μ1 with
  | some ps => (match strsOf ps with
    | some xs => if xs.length < 64 then .ok (.v (.lst ((sortU xs).map PV.str))) μ1 else .no
    | none => .no)
  | none => .no
section
variable {K : PySem.W.Frag} {CT : Str → Addr} {E : XK}
theorem re_sortSet {te : TE} {fe : FE} (he : RE K CT E te fe) : RE K CT E (tSortSet K te) (sortSetM fe) := by
  intro σ ρ w μ Q e r h
  refine he σ ρ w μ _ e r (post_bind h fun x v w1 μ1 e1 r1 q1 h1 => ?_)
  split at h1
  · rename_i hs
    obtain ⟨a, us, rfl, hr, hq⟩ := lstE_at r1 q1 hs
    split at h1
    · rename_i hx
      split at h1
      · rename_i hl
        have e := strsOf_eq hr hx
        subst e
        exact ⟨a, _, rfl, hq, hl, fun p hp => post_new r1 (fun H hH s => .lst hH (Reps.strs _)) h1 hp⟩
      · exact h1.elim
    · exact h1.elim
  · exact h1.elim
end
end P

set_option Elab.async false
set_option linter.all false
set_option maxRecDepth 100000
set_option maxHeartbeats 4000000
/-! enumerate of a tuple. -/
namespace P
open PySem PySem.Spec L2 G PyProof.Rows
set_option maxHeartbeats 4000000 in
theorem meets_enumT {v : Value} {o : Obj} {H : Heap → Prop} (B : Begins v o H) :
    PySem.Meets (Builtin.«enumerate.__new__» ⟨[.type "enumerate", v], []⟩) (fun _ R s => H s.heap ∧
      R (.ok (.ret (.ref (s.heap.push o).objs.size))) { s with heap := (s.heap.push o).push { cls := .type "enumerate", data := .fields #[.none, .bool false, .ref s.heap.objs.size, rawInt 0, .none, .none] } }) :=
  .of_wp fun prog w A R s h => by
    obtain ⟨hp, g, d, tk, os⟩ := s; obtain ⟨h1, h⟩ := h
    have hsub := sub_enumerate
    have q1 : ∀ {A' : Around} {E : Value → Shared → Prop} {Q : Value → Shared → Prop}, Q (.ref hp.objs.size) ⟨hp.push o, g, d, tk, os⟩ → wpAny (model prog w) A' (pyIter v) Q E ⟨hp, g, d, tk, os⟩ :=
      fun q => B.iter prog w _ _ ⟨hp, g, d, tk, os⟩ _ h1 q
    wp_walk using q1
    refine wpAny_stack_any fun st => wpAny_pure ?_
    split
    · rename_i c _ _ _ _ _
      cases (c == Value.type "enumerate")
      · wp_walk using q1
        exact ⟨_, rfl, h⟩
      · wp_walk using q1
        exact ⟨_, rfl, h⟩
    · wp_walk using q1
      exact ⟨_, rfl, h⟩
section
variable {prog : Program} {w : World} {A : Around} {E : Value → Shared → Prop} {s : Shared}
theorem call_enumT {v : Value} {o : Obj} {H : Heap → Prop} {Q : Value → Shared → Prop} (B : Begins v o H) (h1 : H s.heap)
    (h : ∀ h', IsEnum h' (s.heap.objs.size + 1) s.heap.objs.size 0 .none → h'.get? s.heap.objs.size = some o → (∀ b o, s.heap.get? b = some o → h'.get? b = some o) → Q (.ref (s.heap.objs.size + 1)) { s with heap := h' }) :
    wpAny (model prog w) A (call (.type "enumerate") [v]) Q E s := by
  refine callType_new F.called_enumerate (by decide) (F.typeCall_enumerate_1 _) (F.newCall_enumerate_1 _) (fun obj => F.args_object_init_2 obj _) F.entry_enumerate_new (meets_enumT B) ⟨h1, ?_⟩
  have hz : (s.heap.push o).objs.size = s.heap.objs.size + 1 := Heap.size_push ..
  show _ ∧ _
  rw [hz]
  have he : IsEnum ((s.heap.push o).push { cls := .type "enumerate", data := .fields #[.none, .bool false, .ref s.heap.objs.size, rawInt 0, .none, .none] }) (s.heap.objs.size + 1) s.heap.objs.size 0 .none := by
    have := Heap.get?_push_size (s.heap.push o) (o := { cls := .type "enumerate", data := .fields #[.none, .bool false, .ref s.heap.objs.size, rawInt 0, .none, .none] }) rfl
    rw [hz] at this; exact this
  exact ⟨⟨_, he, rfl⟩, h _ he (Heap.get?_push_of_some _ (Heap.get?_push_size _ B.free)) fun b o x => Heap.get?_push_of_some _ (Heap.get?_push_of_some _ x)⟩
end
/-- the items of the tuple at a, each in a new pair -/
def Iet (K : PySem.W.Frag) (a : Addr) : It :=
  ⟨fun i H => ∃ (xs : List V) (x : V), SqT K H a xs ∧ xs[i]? = some x, fun i H v H' => ∃ T x, v = .ref T ∧ H T = none ∧ H' = upd H T (.tup [.int (i : Nat), x]) ∧ ∀ xs, SqT K H a xs → xs[i]? = some x, fun i H => ∃ xs : List V, SqT K H a xs ∧ xs.length ≤ i⟩
theorem turn_enumT {P : Program} {w : World} {K : PySem.W.Frag} {elts : List Expr} {kk : Nat} {tpos : Pos} (a e it : Addr) :
    Turn P w K (.Tuple elts kk tpos) (Iet K a) [e, it] e (fun i h => (∃ old, IsEnum h e it ((i : Nat) : Int) old) ∧ h.IsTupleIter it a i ∧ e ≠ it ∧ a ≠ it ∧ a ≠ e) where
  mem := by simp
  obj := fun i h st b hb => by
    obtain ⟨⟨old, he⟩, ⟨o, ho, hc, hd⟩, _⟩ := st
    have e' : b = e ∨ b = it := by simpa using hb
    rcases e' with z | z
    · rw [z]; exact ⟨_, he, fun v q => nomatch q⟩
    · rw [z]; exact ⟨o, ho, fun v q => by rw [hd] at q; cases q⟩
  keep := fun i h h' st k => let ⟨⟨old, he⟩, hi, hne⟩ := st; ⟨⟨old, k e (by simp) _ he⟩, hi.at fun o q => k it (by simp) o q, hne⟩
  item := by
    intro X hP hw hK hc i pins s σ H E I hf st hg
    subst hP hw hK
    obtain ⟨⟨old, he⟩, hit, hne, hai, hae⟩ := st
    obtain ⟨xs, x, hq, hx⟩ := hg
    obtain ⟨its, rv, p, hz⟩ := I.tuple hq
    have hel : e < s.heap.objs.size := Heap.lt_size he
    have hil : it < s.heap.objs.size := by obtain ⟨_, q, _⟩ := hit; exact Heap.lt_size q
    have D := Draws.tuple (prog := X.prog) (w := X.w) (A := X.A.in1) (by exact I.ok.hd hc) it a hai its.toArray
    have hlt : i < its.toArray.size := by
      rw [List.size_toArray, ← rv.length]
      exact (List.getElem?_eq_some_iff.mp hx).1
    refine wpAny_pyNext_enum_itemC (e := e) (fp := [it, a]) (n := its.toArray.size) (c := (i : Int)) D he ⟨hit, p⟩ hlt hne (by simp [hne, Ne.symm hae]) fun u h' tk hu ho hs' hT hsz hk => ?_
    obtain ⟨u', hu', ru⟩ := rv.get hx
    have eu : u = u' := by
      have q : its[i]? = some u := by simpa using hu
      rw [hu'] at q
      exact (Option.some.inj q).symm
    subst eu
    refine ⟨_, rfl, wpAny_letOwnedTupleGo_enum (s := { s with heap := h', toks := tk + 1 }) ho fun h'' he' sb => ?_⟩
    have hT2 : h''.get? s.heap.objs.size = some { cls := .type "tuple", data := .seq #[.int i tk, u] } := (sb.2 _ (Nat.ne_of_gt hel)).trans hT
    have new : ObjOk X.prog X.w (upd H s.heap.objs.size (.tup [.int (i : Nat), x])) h'' s.heap.objs.size (.tup [.int (i : Nat), x]) :=
      ⟨by show 2 ≤ sizeLine; decide, [.int i tk, u], .cons ⟨_, rfl⟩ (.cons ru .nil), ⟨_, hT2, rfl, _, rfl⟩⟩
    have I1 : Inv X pins σ (upd H s.heap.objs.size (.tup [.int (i : Nat), x])) { s with heap := h'', toks := tk + 1 } :=
      I.turnedNew (ch := [e, it]) (fun b ob hb q => (sb.2 b (fun z => hb (by simp [z]))).trans (hk b ob (fun z => hb (by simp [z])) (fun z => hb (by simp [z])) q)) hf (Nat.le_refl _) new
    refine ⟨.ref s.heap.objs.size, _, I1, rfl, ⟨_, x, rfl, I.hok.fresh (Nat.le_refl _), rfl, fun ys hy => by rw [I.tuple_inj hy hq]; exact hx⟩, ⟨⟨u, ?_⟩, hs'.1.at fun o q => (sb.2 it (Ne.symm hne)).trans q, hne, hai, hae⟩, fun b hb => ?_⟩
    · have e1 : ((i + 1 : Nat) : Int) = (i : Int) + 1 := by omega
      rw [e1]; exact he'
    · have hb' : b < s.heap.objs.size := by
        have e' : b = e ∨ b = it := by simpa using hb
        rcases e' with z | z
        · rw [z]; exact hel
        · rw [z]; exact hil
      rw [upd_ne (Nat.ne_of_lt hb')]
      exact (hf b hb).1
  done := by
    intro X hP hw hK hc i pins s σ H E I hf st hg
    subst hP hw hK
    obtain ⟨⟨old, he⟩, hit, hne, hai, hae⟩ := st
    obtain ⟨xs, hq, hx⟩ := hg
    obtain ⟨its, rv, p, hz⟩ := I.tuple hq
    obtain ⟨f0, f1, f2, f3, f4, f5⟩ := hf it (by simp)
    have hl := rv.length
    have hend : Draws X.prog X.w X.A.in1 it [it, a] i (fun _ _ => True) (fun j h => j = i ∧ h.IsTupleIter it a i ∧ h.IsTuple a its.toArray) :=
      { live := fun _ _ st => let ⟨o, ho, _⟩ := st.2.1; ⟨o, ho⟩
        frame := fun _ _ _ st hk => ⟨st.1, st.2.1.at fun o e => hk it (by simp) o e, st.2.2.at fun o e => hk a (by simp) o e⟩
        item := fun j s Q E hi st hQ => absurd st.1 (Nat.ne_of_lt hi)
        done := fun s Q E st hE => wpAny_nextOf_tuple_end (by exact I.ok.hd hc) st.2.1 st.2.2 (by simp; omega) hE }
    exact wpAny_pyNext_enum_endD hend he ⟨rfl, hit, p⟩ fun h' eb => ⟨rfl, I.turned (t' := s.toks) (fun b o hb q => eb b o hb q) f0 f1 f3 f4 f5⟩
  self := fun A i s Q E st h => let ⟨⟨_, he⟩, _⟩ := st; wpAny_pyIter_enum he h
def iEnumT (K : PySem.W.Frag) (ta : TA) : TI := fun σ H R => ta σ H fun vs H1 => ∃ a xs, vs = [.ref a] ∧ SqT K H1 a xs ∧ R (Iet K a) H1
theorem pi_enumT {X : Cx} {e : Expr} {ta : TA} {p pos tpos : Pos} {elts : List Expr} {kk : Nat} (hg : Gl X "enumerate") (hm : X.mg "enumerate" = none) (ha : PA X [e] ta) (hs : starEach [e] X.env = [(false, eval e X.env)] := by rfl) :
    PI X (.Tuple elts kk tpos) (.Call (.Name "enumerate" p) [e] [] pos) (iEnumT X.K ta) := by
  refine ⟨fun pins s σ H R I h => ?_⟩
  refine Call_ (ld_blt I hg hm boot_enumerate (PyProof.Rows.callWith_type1 (thn (ha.run pos pins s σ H _ I h) fun us s1 ⟨vs, H1, I1, r1, q1⟩ => ?_) hs rfl))
  obtain ⟨a, xs, ex, hq, q⟩ := q1
  subst ex
  cases r1 with
  | cons r rr =>
    cases rr
    cases r
    obtain ⟨its, rv, p', hz⟩ := I1.tuple hq
    refine call_enumT (begins_tuple a its.toArray) p' fun h' he hit hk => wpAny_pyIter_enum he ?_
    have I2 : Inv X pins σ H1 { s1 with heap := h' } := I1.kept (t' := s1.toks) hk
    have hal : a < s1.heap.objs.size := p'.lt
    refine ⟨s1.heap.objs.size + 1, [s1.heap.objs.size + 1, s1.heap.objs.size], _, _, H1, rfl, I2, turn_enumT a (s1.heap.objs.size + 1) s1.heap.objs.size, ⟨⟨.none, he⟩, ⟨_, hit, rfl, rfl⟩, Nat.succ_ne_self _, Nat.ne_of_lt hal, Nat.ne_of_lt (Nat.lt_succ_of_lt hal)⟩, fun b hb => ?_, q⟩
    have e' : b = s1.heap.objs.size + 1 ∨ b = s1.heap.objs.size := by simpa using hb
    have hle : s1.heap.objs.size ≤ b := by
      rcases e' with z | z
      · rw [z]; exact Nat.le_add_right _ _
      · rw [z]; exact Nat.le_refl _
    exact I1.fpOk hle (I1.hok.fresh hle)
/-- the pairs of an enumerate -/
def numb (n : Nat) : List PV → List EV
  | [] => []
  | p :: r => .v (.tup [.int (n : Int), p]) :: numb (n + 1) r
def enumM (fa : FA) : FA := fun ρ μ => (fa ρ μ).bind fun xs μ1 => match xs with
  | [.v (.tup ps)] => .ok (numb 0 ps) μ1
  | _ => .no
theorem numb_len : ∀ (n : Nat) (ps : List PV), (numb n ps).length = ps.length
  | _, [] => rfl
  | n, _ :: r => by unfold numb; rw [List.length_cons, List.length_cons, numb_len]
theorem numb_get : ∀ (n : Nat) (ps : List PV) (i : Nat) (e : EV), (numb n ps)[i]? = some e → ∃ p, ps[i]? = some p ∧ e = .v (.tup [.int ((n + i : Nat) : Int), p])
  | _, [], _, _, h => by simp [numb] at h
  | n, p :: r, 0, e, h => by
    unfold numb at h
    simp at h
    subst h
    exact ⟨p, rfl, rfl⟩
  | n, p :: r, i + 1, e, h => by
    unfold numb at h
    obtain ⟨q, h1, h2⟩ := numb_get (n + 1) r i e (by simpa using h)
    refine ⟨q, by simpa using h1, ?_⟩
    rw [h2]
    congr 5
    omega
section
variable {K : PySem.W.Frag} {CT : Str → Addr} {E : XK}
theorem ri_enumT {t : TA} {f : FA} (ha : RA K CT E t f) : RI K CT E (iEnumT K t) (enumM f) := by
  intro σ ρ w μ Q e r h
  refine ha σ ρ w μ _ e r (post_bind h fun xs vs w1 μ1 e1 r1 q1 h1 => ?_)
  split at h1
  · cases q1 with
    | cons a q1 => cases q1 with
      | nil => cases a with
        | v a => cases a with
          | tup hq hr =>
            rename_i ps ad us
            refine ⟨_, _, rfl, sqT_same r1.s hq, h1 _ w1 .refl r1 ?_⟩
            intro w' μ' x' r'
            have s : Same w1.Hs w'.H := fun b o h => r'.s b o (x'.s b o h)
            refine ⟨⟨us, sqT_same s hq, by rw [numb_len, hr.length]; exact Nat.le_refl _⟩, fun i e he => ?_⟩
            obtain ⟨p, hp, rfl⟩ := numb_get 0 ps i e he
            obtain ⟨v, hv, rv⟩ := hr.get hp
            refine ⟨⟨us, v, sqT_same s hq, hv⟩, fun y H' hy => ?_⟩
            obtain ⟨T, x, rfl, hT, rfl, hx⟩ := hy
            have ex := hx us (sqT_same s hq)
            rw [hv] at ex
            cases ex
            have x2 := Ext.new (o := .tup [.int (i : Nat), v]) r' hT
            exact ⟨_, x2, r'.new hT, rfl, .v (.tup (.of upd_same) (.cons (by rw [Nat.zero_add]; exact .int _) (.cons (rv.same fun b o h => x2.s b o (x'.s b o h)) .nil)))⟩
  · exact h1.elim
end
end P

set_option Elab.async false
set_option linter.all false
set_option maxRecDepth 100000
set_option maxHeartbeats 4000000
namespace P
open PySem PySem.Spec L2 G PyProof.Rows
theorem dunder_add : dunder "add" = ("__add__" : Str) := by decide +kernel
section
variable {prog : Program} {w : World} {A : Around} {E : Value → Shared → Prop} {s : Shared} {K : PySem.W.Frag} {x b C f : Addr} {ox oy : Obj} {od oe : Option Obj} {cd : ClassData} {rest : List Value}
/-- x + y, instances of one class whose own __add__ is f -/
theorem add_K {Q : Value → Shared → Prop} (X : K.In s.heap) (I : PySem.W.InstAt s.heap x ox C od) (J : PySem.W.InstAt s.heap b oy C oe) (hc : PySem.W.clsIn K C = some cd) (hm : cd.mro = .ref C :: rest)
    (hs : PySem.W.findIn K (.ref C) "__add__" = some (some (.ref f))) (hf : PySem.W.isFn K (.ref f) = true)
    (h : wpAny (model prog w) A (call (.ref f) [.ref x, .ref b]) (fun v s' => v ≠ .notImplemented ∧ Q v s') E s) : wpAny (model prog w) A (binaryOp .Add (.ref x) (.ref b)) Q E s := by
  have one : wpAny (model prog w) A (tryMethod (.ref x) "__add__" (.ref b)) (fun r s' => ∃ v, r = some v ∧ Q v s') E s := by
    unfold tryMethod
    refine wpAny_bind (PySem.W.special_fn X I hs (beq_iff_eq.mp hf) (wpAny_mono h (fun v s' hv => ?_) fun _ _ e => e))
    obtain ⟨hn, hq⟩ := hv
    cases v <;> first | exact absurd rfl hn | exact wpAny_pure ⟨_, rfl, hq⟩
  have fill : wpAny (model prog w) A (fillsNumberSlot (.ref C) "add") (fun r s' => r = true ∧ s' = s) E s := by
    unfold fillsNumberSlot
    refine wpAny_bind (((PySem.W.looks_clsIn X hc).andThen .now : PySem.W.Looks (model prog w) s.heap (mroOf (.ref C)) cd.mro).here ?_)
    rw [hm]
    unfold List.anyM
    dsimp only
    refine wpAny_bind ?_
    unfold List.anyM
    rw [dunder_add]
    refine wpAny_bind (wpAny_bind ((PySem.W.looks_findIn X hs).here ?_))
    exact wpAny_pure (wpAny_pure (wpAny_pure ⟨rfl, rfl⟩))
  unfold binaryOp
  refine wpAny_holding ?_
  refine wpAny_bind ?_
  show wpAny _ A (binaryOp1 "add" (.ref x) (.ref b)) _ E s
  unfold binaryOp1
  rw [dunder_add]
  refine wpAny_bind (I.type.here (wpAny_bind (J.type.here ?_)))
  refine wpAny_bind (wpAny_mono fill (fun r s' z => ?_) fun _ _ e => e)
  obtain ⟨rfl, rfl⟩ := z
  have e1 : (Value.ref C == Value.ref C) = true := by simp
  rw [if_pos e1]
  refine wpAny_bind (wpAny_pure ?_)
  simp only [Bool.and_false, Bool.false_eq_true, if_false, Bool.false_and, if_true, Bool.true_and]
  refine wpAny_bind (wpAny_pure ?_)
  rw [if_neg (by decide)]
  refine wpAny_bind (wpAny_mono one (fun r s2 z => ?_) fun _ _ e => e)
  obtain ⟨v, rfl, hq⟩ := z
  exact wpAny_pure (wpAny_pure hq)
end
end P
namespace P
open PySem PySem.Spec L2 G
/-- the class's own line of classes begins with itself -/
def AddC (K : PySem.W.Frag) (C : Addr) : Prop := ∃ (cd : ClassData) (rest : List Value), PySem.W.clsIn K C = some cd ∧ cd.mro = .ref C :: rest
def addB (K : PySem.W.Frag) (C : Addr) : Bool := match PySem.W.clsIn K C with
  | some cd => (match cd.mro with
    | .ref D :: _ => D == C
    | _ => false)
  | none => false
theorem addB_ok {K : PySem.W.Frag} {C : Addr} (h : addB K C = true) : AddC K C := by
  unfold addB at h
  split at h
  · rename_i cd e
    split at h
    · rename_i D r e2
      have : D = C := by simpa using h
      subst this
      exact ⟨cd, r, e, e2⟩
    · cases h
  · cases h
def rOwnAdd (C : Addr) (sp : Sp) (E : XK) : R2 := fun x y H Q => ∃ a dx fs b dy gs, x = .ref a ∧ y = .ref b ∧ H a = some (.ins C dx fs) ∧ H b = some (.ins C dy gs) ∧ sp [x, y] H Q E
theorem op_ownAdd {X : Cx} {C : Addr} {k : Nat} {ps : List Str} {sp : Sp} {E : XK} (D : MethOk X.prog X.w X.K X.mg X.base k C "__add__" ps sp) (hc : AddC X.K C) (hr : Room k X.A) (hx : Passes (L2.CX X.prog X.w) X E) : OpR X (binaryOp .Add) (rOwnAdd C sp E) := by
  intro pins s σ H x y v u Q I rx ry h
  obtain ⟨a, dx, fs, b, dy, gs, rfl, rfl, ha, hb, q⟩ := h
  obtain rfl : v = Value.ref a := rx
  obtain rfl : u = Value.ref b := ry
  obtain ⟨f, ⟨fd, F, bn⟩, hm⟩ := D.ex
  obtain ⟨cd, rest, h1, h2⟩ := hc
  obtain ⟨mA, J, _⟩ := ins_get I.hok ha
  obtain ⟨mB, J', _⟩ := ins_get I.hok hb
  obtain ⟨od, J, _⟩ := J.look
  obtain ⟨od', J', _⟩ := J'.look
  refine add_K I.kIn J J' h1 h2 hm.at_ hm.fn (wpAny_mono (run_fn (us := [.ref a, .ref b]) (vs := [.ref a, .ref b]) F hr bn .nil hx I (.cons rfl (.cons rfl .nil)) q) (fun w' s' z => ?_) fun _ _ x => x)
  refine ⟨?_, z⟩
  obtain ⟨z, H', I', rz, qz⟩ := z
  intro e
  subst e
  cases z <;> first | (obtain ⟨_, e⟩ := rz; cases e) | (cases rz)
section
variable {K : PySem.W.Frag} {CT : Str → Addr} {E : XK}
def ownAddO (c : Str) (cl : FC) : FO := fun x y μ => match clsOf x μ, clsOf y μ with
  | some (c1, _, _), some (c2, _, _) => if c1 = c ∧ c2 = c then callS cl 2 [x, y] μ else .no
  | _, _ => .no
theorem rop_ownAdd {C : Addr} {c : Str} {cl : FC} (hC : C = CT c) : ROp K CT E (rOwnAdd C (spOf K CT cl 2) E) (ownAddO c cl) := by
  subst hC
  intro w μ v u x y Q r q1 q2 h
  unfold ownAddO at h
  split at h
  · rename_i c1 n1 l1 c2 n2 l2 h1 h2
    split at h
    · rename_i hcc
      obtain ⟨rfl, rfl⟩ := hcc
      obtain ⟨a, dx, us, rfl, ha⟩ := clsOf_at r q1 h1
      obtain ⟨b, dy, ws, rfl, hb⟩ := clsOf_at r q2 h2
      exact ⟨a, dx, _, b, dy, _, rfl, rfl, ha, hb, callS_sp r (.cons q1 (.cons q2 .nil)) h⟩
    · exact h.elim
  · exact h.elim
end
/-! ### a class whose __init__ has a star parameter -/
section
variable (P : Program) (w : World) (K : PySem.W.Frag) (mg : Str → Option Value) (base : Heap)
structure KeepsR (k : Nat) (sp : Sp) (f : Addr) : Prop where
  fr : FnR P w K mg base (L2.CX P w) k f sp
structure MakeStar (k : Nat) (x : Str) (C : Addr) (sp : Sp) : Prop where
  ex : ∃ f, KeepsR P w K mg base k sp f ∧ Mk K C f
  mg : mg x = some (.ref C)
end
section
variable {P : Program} {w : World} {K : PySem.W.Frag} {mg : Str → Option Value} {base : Heap}
theorem keepsStar {x qual pv : Str} {params : Arguments} {body : List Stmt} {scope : Scope} {f : Addr} {fd : FuncData} {N ps : List Str} {k : Nat} {CT : Str → Addr} {cl : FC} (F : FunD K x qual params body scope [] [] f fd) (S : FnScope N (ps ++ [pv]) scope)
    (hb : ∀ (kV doc pm : Value) (an : Option Addr) (cdv ct : Value) (us rest : List Value), us.length = ps.length → bindArgs (PySem.W.fnOf x qual params body scope .none kV doc pm an cdv ct) ⟨us ++ rest, []⟩ = (newTuple rest >>= fun t => pure (ps.zip us ++ [(pv, t)])))
    (hbody : ∀ (cdv : Value) (A : Around) (outer : List PySem.Env) (s : Shared) (H : Hp) (vs : List V) (Q : VK) (E : XK), Room k (A.deeper (PyProof.Rows.envOfC qual scope s.heap.objs.size f cdv)) → spOf K CT cl (ps.length + 1) vs H Q E →
      ∃ t, PSs (cxOf (L2.CX P w) P w K mg base N qual scope f cdv A outer s H E) body t ∧ t { nx := fun _ H' => Q .non H', rt := Q } (L2.start N vs) H) : KeepsR P w K mg base (k + 1) (spStar K CT cl ps.length) f := by
  obtain ⟨oc, od, dV, kV, doc, pm, an, cdv, ct, osl, rfl, lk, hcd, hd, _⟩ := F.ex
  have e : dV = .none := hd.elim (·.2) fun z => absurd rfl z.1
  subst e
  exact ⟨StX.fn_star (ps := ps) lk hcd S StX.cxUp (fun us rest hl => hb kV doc pm an cdv ct us rest hl) fun A outer s H vs Q E hr hsp => hbody cdv A outer s H vs Q E hr hsp⟩
end
section
variable {X : Cx} {k : Nat} {x : Str} {C : Addr} {sp : Sp} {E : XK} {e : Expr} {es : List Expr} {te : TE} {t : TA} {p pos sp_ : Pos}
theorem pe_makeRD (D : MakeStar X.prog X.w X.K X.mg X.base k x C sp) (hr : Room (k + 1) X.A) (hx : Passes (L2.CX X.prog X.w) X E) (ha : PA X (e :: es) t) (hg : Gl X x := by rfl) (hdb : (x == ("__debug__" : Str)) = false := by decide)
    (he : starEach (e :: es) X.env = (false, eval e X.env) :: starEach es X.env := by rfl) (hpl : (backTo pos (starEach es X.env)).any (·.1) = false := by rfl) : PE X (.Call (.Name x p) (e :: es) [] pos) (StX.tMakeR C sp E t) := by
  obtain ⟨f, ⟨F⟩, M⟩ := D.ex
  exact StX.pe_makeR M F hr hg D.mg hx ha hdb he hpl
/-- C(*e) -/
theorem pe_makeRS (D : MakeStar X.prog X.w X.K X.mg X.base k x C sp) (hr : Room (k + 1) X.A) (hx : Passes (L2.CX X.prog X.w) X E) (he : PE X e te) (hg : Gl X x := by rfl) (hdb : (x == ("__debug__" : Str)) = false := by decide)
    (hst : starEach [.Starred e sp_] X.env = [(true, eval e X.env)] := by rfl) : PE X (.Call (.Name x p) [.Starred e sp_] [] pos) (StX.tMakeR C sp E (StX.tStar X.K te tNil)) := by
  obtain ⟨f, ⟨F⟩, M⟩ := D.ex
  refine ⟨fun pins s σ H Q I h => ?_⟩
  refine wpAny_Call_Name_kw (ld_glob I hg D.mg ?_ hdb)
  refine PySem.W.callWith_S (h₀ := X.base) I.ok.mod.kin M.kp (thn (he.run pins s σ H _ I h) fun v s1 ⟨y, H1, I1, ry, a, xs, ey, hxs, q⟩ => ?_) hst
  subst ey
  obtain rfl : v = Value.ref a := ry
  have q' := (show (∀ x dx, H1 x = none → H1 dx = none → dx ≠ x → sp (V.ref x :: (xs ++ [])) _ _ E) from q)
  rw [List.append_nil] at q'
  exact StX.star_any I1 hxs fun us s2 I2 rv => ⟨I2.kIn, StX.run_makeR M F hr hx I2 rv q'⟩
/-- C() -/
theorem pe_makeR0 (D : MakeStar X.prog X.w X.K X.mg X.base k x C sp) (hr : Room (k + 1) X.A) (hx : Passes (L2.CX X.prog X.w) X E) (hg : Gl X x := by rfl) (hdb : (x == ("__debug__" : Str)) = false := by decide) :
    PE X (.Call (.Name x p) [] [] pos) (StX.tMakeR C sp E tNil) := by
  obtain ⟨f, ⟨F⟩, M⟩ := D.ex
  refine ⟨fun pins s σ H Q I h => ?_⟩
  refine wpAny_Call_Name_kw (ld_glob I hg D.mg ?_ hdb)
  exact PySem.W.callWith_K0 I.kIn M.kp (StX.run_makeR (us := []) M F hr hx I .nil h)
end
section
variable {K : PySem.W.Frag} {CT : Str → Addr} {E : XK}
/-- *e as arguments -/
def starM (fe : FE) : FA := fun ρ μ => (fe ρ μ).bind fun x μ1 => match seqE x μ1 with
  | some ps => .ok (ps.map EV.v) μ1
  | none => .no
theorem ra_star {te : TE} {fe : FE} (he : RE K CT E te fe) : RA K CT E (StX.tStar K te tNil) (starM fe) := by
  intro σ ρ w μ Q e r h
  refine he σ ρ w μ _ e r (post_bind h fun x v w1 μ1 e1 r1 q1 h1 => ?_)
  split at h1
  · rename_i ps hs
    obtain ⟨a, vs, rfl, hr, hq⟩ := seqE_at r1 q1 hs
    refine ⟨a, vs, rfl, hq.symm, ?_⟩
    show Q (vs ++ []) w1.H
    rw [List.append_nil]
    exact h1 vs w1 .refl r1 (.of hr)
  · exact h1.elim
end
end P

set_option Elab.async false
set_option linter.all false
set_option maxRecDepth 100000
set_option maxHeartbeats 4000000
/-! dict(zip(..)) over iterators of any kind. -/
namespace P
open PySem PySem.Spec L2 G PyProof.Rows PySem.W
section
variable {prog : Program} {w : World} {A : Around} {E : Value → Shared → Prop} {s : Shared} {z TI TO T i1 i2 : Addr} {fp1 fp2 : List Addr} {n1 n2 i : Nat} {P1 P2 : Nat → Value → Prop} {St1 St2 : Nat → Heap → Prop} {f : Bool} {oT : Obj}
theorem zipH_item0 {Q : Value → Shared → Prop} (S : ZipSep2 z TI TO i1 i2 fp1 fp2) (D1 : Draws prog w A i1 fp1 n1 P1 St1) (D2 : Draws prog w A i2 fp2 n2 P2 St2)
    (hz : IsZipHeld s.heap z TI TO T f) (hT : s.heap.get? T = some oT) (hTI : IsTupOf2 s.heap TI (.ref i1) (.ref i2)) (st1 : St1 i s.heap) (st2 : St2 i s.heap) (hlt1 : i < n1) (hlt2 : i < n2)
    (hQ : ∀ x1 x2 h' tk, P1 i x1 → P2 i x2 → IsZipHeld h' z TI TO T true → St1 (i + 1) h' → St2 (i + 1) h' → IsTupOf2 h' s.heap.objs.size x1 x2 → (∀ c o, c ≠ z → c ≠ i1 → c ≠ i2 → s.heap.get? c = some o → h'.get? c = some o) → Q (.ref s.heap.objs.size) { s with heap := h', toks := tk }) :
    wpAny (model prog w) A (Builtin.«zip.__next__» ⟨[.ref z], []⟩) (fun fin s' => ∃ v, fin = .done (.ret v) ∧ Q v s') E s := by
  obtain ⟨hp, g, d, tk0, os⟩ := s
  show wpAny _ _ (field (.ref z) 2 >>= _) _ _ _
  refine wpAny_bind (wpAny_field hz rfl (x := .bool false) rfl ?_)
  show wpAny _ _ (field (.ref z) 3 >>= _) _ _ _
  refine wpAny_bind (wpAny_field hz rfl (x := .ref TI) rfl ?_)
  refine wpAny_bind (wpAny_seqItems hTI rfl ?_)
  show wpAny _ _ (Builtin.SmallTypes.ownedTupleIsFree (.ref z) >>= _) _ _ _
  refine wpAny_bind (wpAny_tupleHeld_zip hz hT fun h₁ hz₁ hs₁ => ?_)
  replace hs₁ : Heap.SameBut z hp h₁ := hs₁
  simp only [Bool.false_eq_true, if_false]
  refine wpAny_bind ?_
  rw [← Array.forIn_toList]
  simp only [List.forIn_cons, List.forIn_nil]
  refine wpAny_bind (wpAny_bind (wpAny_holding ?_))
  show wpAny _ _ (Builtin.SmallTypes.nextOf (.ref i1) >>= _) _ _ _
  refine wpAny_bind (D1.item i ⟨h₁, g, d, tk0, os⟩ _ _ hlt1 (D1.over st1 hs₁ S.zf1) fun x1 h₂ t2 p1 st1' hs₂ => wpAny_pure ?_)
  replace hs₂ : Heap.SameBut i1 h₁ h₂ := hs₂
  refine wpAny_pure ?_
  refine wpAny_bind (wpAny_bind (wpAny_holding ?_))
  show wpAny _ _ (Builtin.SmallTypes.nextOf (.ref i2) >>= _) _ _ _
  refine wpAny_bind (D2.item i ⟨h₂, g, d, t2, os⟩ _ _ hlt2 (D2.over (D2.over st2 hs₁ S.zf2) hs₂ S.sep1_2) fun x2 h₃ t3 p2 st2' hs₃ => wpAny_pure ?_)
  replace hs₃ : Heap.SameBut i2 h₂ h₃ := hs₃
  refine wpAny_pure (wpAny_pure ?_)
  show wpAny _ _ (newTuple [x1, x2] >>= _) _ _ _
  refine wpAny_bind (wpAny_newTuple ?_)
  have hsz : h₃.objs.size = hp.objs.size := by rw [hs₃.1, hs₂.1, hs₁.1]
  have hz₃ : IsZipHeld h₃ z TI TO T true := hs₃.extBut _ _ S.zi2 (hs₂.extBut _ _ S.zi1 hz₁)
  have hk : ∀ c o, c ≠ z → c ≠ i1 → c ≠ i2 → hp.get? c = some o → h₃.get? c = some o := fun c o c1 c2 c3 e => hs₃.extBut _ _ c3 (hs₂.extBut _ _ c2 (hs₁.extBut _ _ c1 e))
  have st1₃ : St1 (i + 1) h₃ := D1.over st1' hs₃ S.sep2_1
  refine wpAny_pure ⟨_, rfl, ?_⟩
  show Q (.ref h₃.objs.size) _
  have hp' : IsTupOf2 (h₃.push { cls := .type "tuple", data := .seq #[x1, x2] }) h₃.objs.size x1 x2 := Heap.get?_push_size _ rfl
  have up : ∀ c o, h₃.get? c = some o → (h₃.push { cls := .type "tuple", data := .seq #[x1, x2] }).get? c = some o := fun c o e => Heap.get?_push_of_some _ e
  rw [hsz] at hp' ⊢
  exact hQ x1 x2 _ t3 p1 p2 (up _ _ hz₃) (D1.frame _ _ _ st1₃ fun b _ o e => up b o e) (D2.frame _ _ _ st2' fun b _ o e => up b o e) hp' fun c o c1 c2 c3 e => up _ _ (hk c o c1 c2 c3 e)
theorem zipH_end0 {Q : PySem.Fin → Shared → Prop} (S : ZipSep2 z TI TO i1 i2 fp1 fp2) (D1 : Draws prog w A i1 fp1 n1 P1 St1) (D2 : Draws prog w A i2 fp2 n2 P2 St2)
    (hz : IsZipHeld s.heap z TI TO T f) (hT : s.heap.get? T = some oT) (hTI : IsTupOf2 s.heap TI (.ref i1) (.ref i2)) (st1 : St1 i s.heap) (st2 : St2 i s.heap) (hle1 : i ≤ n1) (hle2 : i ≤ n2) (hend : i = n1 ∨ i = n2)
    (hE : ∀ h' tk e, (∀ c o, c ≠ z → c ≠ i1 → c ≠ i2 → s.heap.get? c = some o → h'.get? c = some o) → (∃ o, h'.get? e = some o ∧ o.cls = .type "StopIteration") → E (.ref e) { s with heap := h', toks := tk }) :
    wpAny (model prog w) A (Builtin.«zip.__next__» ⟨[.ref z], []⟩) Q E s := by
  obtain ⟨hp, g, d, tk0, os⟩ := s
  show wpAny _ _ (field (.ref z) 2 >>= _) _ _ _
  refine wpAny_bind (wpAny_field hz rfl (x := .bool false) rfl ?_)
  show wpAny _ _ (field (.ref z) 3 >>= _) _ _ _
  refine wpAny_bind (wpAny_field hz rfl (x := .ref TI) rfl ?_)
  refine wpAny_bind (wpAny_seqItems hTI rfl ?_)
  show wpAny _ _ (Builtin.SmallTypes.ownedTupleIsFree (.ref z) >>= _) _ _ _
  refine wpAny_bind (wpAny_tupleHeld_zip hz hT fun h₁ hz₁ hs₁ => ?_)
  replace hs₁ : Heap.SameBut z hp h₁ := hs₁
  simp only [Bool.false_eq_true, if_false]
  refine wpAny_bind ?_
  rw [← Array.forIn_toList]
  simp only [List.forIn_cons, List.forIn_nil]
  refine wpAny_bind (wpAny_bind (wpAny_holding ?_))
  show wpAny _ _ (Builtin.SmallTypes.nextOf (.ref i1) >>= _) _ _ _
  have s1 := D1.over st1 hs₁ S.zf1
  by_cases h1 : i = n1
  · subst h1
    refine wpAny_bind (D1.done ⟨h₁, g, d, tk0, os⟩ _ _ s1 fun h₂ e hs₂ he => ?_)
    exact hE h₂ tk0 e (fun c o c1 c2 _ x => hs₂ _ _ c2 (hs₁.extBut _ _ c1 x)) he
  · refine wpAny_bind (D1.item i ⟨h₁, g, d, tk0, os⟩ _ _ (by omega) s1 fun x1 h₂ t2 p1 st1' hs₂ => wpAny_pure ?_)
    replace hs₂ : Heap.SameBut i1 h₁ h₂ := hs₂
    refine wpAny_pure ?_
    refine wpAny_bind (wpAny_bind (wpAny_holding ?_))
    show wpAny _ _ (Builtin.SmallTypes.nextOf (.ref i2) >>= _) _ _ _
    have h2 : i = n2 := hend.resolve_left h1
    subst h2
    refine wpAny_bind (D2.done ⟨h₂, g, d, t2, os⟩ _ _ (D2.over (D2.over st2 hs₁ S.zf2) hs₂ S.sep1_2) fun h₃ e hs₃ he => ?_)
    exact hE h₃ t2 e (fun c o c1 c2 c3 x => hs₃ _ _ c3 (hs₂.extBut _ _ c2 (hs₁.extBut _ _ c1 x))) he
theorem zipH_item {Q : Option Value → Shared → Prop} (S : ZipSep2 z TI TO i1 i2 fp1 fp2) (D1 : Draws prog w A.in1 i1 fp1 n1 P1 St1) (D2 : Draws prog w A.in1 i2 fp2 n2 P2 St2)
    (hz : IsZipHeld s.heap z TI TO T f) (hT : s.heap.get? T = some oT) (hTI : IsTupOf2 s.heap TI (.ref i1) (.ref i2)) (st1 : St1 i s.heap) (st2 : St2 i s.heap) (hlt1 : i < n1) (hlt2 : i < n2)
    (hQ : ∀ x1 x2 h' tk, P1 i x1 → P2 i x2 → IsZipHeld h' z TI TO T true → St1 (i + 1) h' → St2 (i + 1) h' → IsTupOf2 h' s.heap.objs.size x1 x2 → (∀ c o, c ≠ z → c ≠ i1 → c ≠ i2 → s.heap.get? c = some o → h'.get? c = some o) → Q (some (.ref s.heap.objs.size)) { s with heap := h', toks := tk }) :
    wpAny (model prog w) A (pyNext (.ref z)) Q E s := by
  have hTy : s.TypeIs (.ref z) "zip" := ⟨_, hz, rfl⟩
  unfold pyNext
  exact wpAny_bind (wpAny_attempt (wpAny_callSpecial?_slot (name := Str.ofString "__next__") hTy F.slot_zip_next
    (wpAny_call_entry F.slot_zip_next hTy F.entry_zip_next
      (zipH_item0 S D1 D2 hz hT hTI st1 st2 hlt1 hlt2 fun x1 x2 h' tk a1 a2 a3 a4 a5 a6 a7 => wpAny_pure (hQ x1 x2 h' tk a1 a2 a3 a4 a5 a6 a7)) (F.args_zip_next_1 _))))
theorem zipH_end {Q : Option Value → Shared → Prop} (S : ZipSep2 z TI TO i1 i2 fp1 fp2) (D1 : Draws prog w A.in1 i1 fp1 n1 P1 St1) (D2 : Draws prog w A.in1 i2 fp2 n2 P2 St2)
    (hz : IsZipHeld s.heap z TI TO T f) (hT : s.heap.get? T = some oT) (hTI : IsTupOf2 s.heap TI (.ref i1) (.ref i2)) (st1 : St1 i s.heap) (st2 : St2 i s.heap) (hle1 : i ≤ n1) (hle2 : i ≤ n2) (hend : i = n1 ∨ i = n2)
    (hQ : ∀ h' tk, (∀ c o, c ≠ z → c ≠ i1 → c ≠ i2 → s.heap.get? c = some o → h'.get? c = some o) → Q none { s with heap := h', toks := tk }) : wpAny (model prog w) A (pyNext (.ref z)) Q E s := by
  have hTy : s.TypeIs (.ref z) "zip" := ⟨_, hz, rfl⟩
  unfold pyNext
  refine wpAny_bind (wpAny_attempt (wpAny_callSpecial?_slot (name := Str.ofString "__next__") hTy F.slot_zip_next
    (wpAny_call_entry F.slot_zip_next hTy F.entry_zip_next (zipH_end0 S D1 D2 hz hT hTI st1 st2 hle1 hle2 hend fun h' tk e hk he => ?_) (F.args_zip_next_1 _))))
  obtain ⟨o, ho, hc⟩ := he
  refine wpAny_bind (wpAny_isInstance (T := "StopIteration") (b := true) ⟨o, ho, hc⟩ isSubtype_stop ?_)
  exact wpAny_pure (hQ _ _ hk)
end
section
variable {prog : Program} {w : World}
/-- zip(v1, v2) as what dict() takes; Dr: what its iterators draw -/
theorem pairs_zip {z TI TO i1 i2 : Addr} {fp1 fp2 : List Addr} {n1 n2 : Nat} {P1 P2 : Nat → Value → Prop} {St1 St2 : Nat → Heap → Prop} (S : ZipSep2 z TI TO i1 i2 fp1 fp2)
    (D1 : ∀ A : Around, A.handled = none → Draws prog w A i1 fp1 n1 P1 St1) (D2 : ∀ A : Around, A.handled = none → Draws prog w A i2 fp2 n2 P2 St2)
    (t1 : ∀ i h, St1 i h → ∀ b ∈ fp1, ∃ o, h.get? b = some o) (t2 : ∀ i h, St2 i h → ∀ b ∈ fp2, ∃ o, h.get? b = some o) :
    PairArg prog w "zip" z (z :: TI :: TO :: (fp1 ++ fp2)) [z, TO, i1, i2] (min n1 n2) (fun i k v => P1 i k ∧ P2 i v)
      (fun h => IsZip h z TI TO .none ∧ IsTupOf2 h TI (.ref i1) (.ref i2) ∧ (∃ a b, IsTupOf2 h TO a b) ∧ St1 0 h ∧ St2 0 h) where
  type := fun s ok => ⟨_, ok.1, rfl⟩
  notDict := by decide
  keep := fun h h' ok hk => by
    obtain ⟨hz, hTI, ⟨a, b, hTO⟩, h1, h2⟩ := ok
    exact ⟨hk _ _ hz, hk _ _ hTI, ⟨a, b, hk _ _ hTO⟩, (D1 callerA rfl).frame _ _ _ h1 fun b _ o e => hk _ o e, (D2 callerA rfl).frame _ _ _ h2 fun b _ o e => hk _ o e⟩
  there := fun h ok b hb => by
    obtain ⟨hz, hTI, ⟨a, c, hTO⟩, h1, h2⟩ := ok
    rcases List.mem_cons.mp hb with rfl | hb
    · exact ⟨_, hz⟩
    rcases List.mem_cons.mp hb with rfl | hb
    · exact ⟨_, hTI⟩
    rcases List.mem_cons.mp hb with rfl | hb
    · exact ⟨_, hTO⟩
    exact (List.mem_append.mp hb).elim (t1 _ _ h1 b) (t2 _ _ h2 b)
  sub := fun b hb => by
    simp only [List.mem_cons, List.not_mem_nil, or_false] at hb
    rcases hb with rfl | rfl | rfl | rfl
    · simp
    · simp
    · have := S.mem1; simp [this]
    · have := S.mem2; simp [this]
  noKeys := fun A s Q E hA ok h => getAttrOr_miss_zip ok.1 rfl rfl rfl zip_no_keys (by decide +kernel) hA h
  iter := fun A s d Q E hA ok hd hdf h => by
    obtain ⟨hz, hTI, ⟨a, b, hTO⟩, h1, h2⟩ := ok
    have dz : d ≠ z := fun e => hdf (by rw [e]; simp)
    have dTI : d ≠ TI := fun e => hdf (by rw [e]; simp)
    have dTO : d ≠ TO := fun e => hdf (by rw [e]; simp)
    have d1 : d ∉ fp1 := fun e => hdf (by simp [e])
    have d2 : d ∉ fp2 := fun e => hdf (by simp [e])
    refine wpAny_pyIter_zip hz (h z [z, TO, i1, i2] (fun i h => i ≤ min n1 n2 ∧ IsTupOf2 h TI (.ref i1) (.ref i2) ∧ St1 i h ∧ St2 i h ∧
      ((IsZip h z TI TO .none ∧ ∃ a b, IsTupOf2 h TO a b) ∨ ∃ T f oT, IsZipHeld h z TI TO T f ∧ h.get? T = some oT ∧ T ≠ z ∧ T ≠ i1 ∧ T ≠ i2 ∧ T ≠ d)) s.heap s.toks ?_
      ⟨Nat.zero_le _, hTI, h1, h2, .inl ⟨hz, a, b, hTO⟩⟩ (fun _ _ e => e) fun b hb => .inl hb)
    exact {
      off := fun hm => by
        simp only [List.mem_cons, List.not_mem_nil, or_false] at hm
        rcases hm with e | e | e | e
        · exact dz e
        · exact dTO e
        · exact d1 (e ▸ S.mem1)
        · exact d2 (e ▸ S.mem2)
      frame := fun i h₁ h₂ st hk => by
        obtain ⟨hle, hTI, h1, h2, hz⟩ := st
        refine ⟨hle, hk _ _ (Ne.symm dTI) hTI, (D1 A hA).frame _ _ _ h1 fun b hb o e => hk _ o (fun z => d1 (z ▸ hb)) e, (D2 A hA).frame _ _ _ h2 fun b hb o e => hk _ o (fun z => d2 (z ▸ hb)) e, ?_⟩
        rcases hz with ⟨hz, a, b, hTO⟩ | ⟨T, f, oT, hz, hT, r1, r2, r3, r4⟩
        · exact .inl ⟨hk _ _ (Ne.symm dz) hz, a, b, hk _ _ (Ne.symm dTO) hTO⟩
        · exact .inr ⟨T, f, oT, hk _ _ (Ne.symm dz) hz, hk _ _ r4 hT, r1, r2, r3, r4⟩
      item := fun i s₁ Q₁ E₁ hi st hds hQ => by
        obtain ⟨hle, hTI, h1, h2, hz⟩ := st
        have l1 : i < n1 := Nat.lt_of_lt_of_le hi (Nat.min_le_left ..)
        have l2 : i < n2 := Nat.lt_of_lt_of_le hi (Nat.min_le_right ..)
        have lt : ∀ {c o}, s₁.heap.get? c = some o → s₁.heap.objs.size ≠ c := fun e => Nat.ne_of_gt (Heap.lt_size e)
        have m1 : s₁.heap.objs.size ≠ i1 := let ⟨_, e⟩ := t1 _ _ h1 _ S.mem1; lt e
        have m2 : s₁.heap.objs.size ≠ i2 := let ⟨_, e⟩ := t2 _ _ h2 _ S.mem2; lt e
        rcases hz with ⟨hz, a, b, hTO⟩ | ⟨T, f, oT, hz, hT, r1, r2, r3, r4⟩
        · refine wpAny_pyNext_zipD2_item S (D1 _ hA) (D2 _ hA) hz hTI hTO h1 h2 l1 l2 fun x1 x2 h' tk p1 p2 a1 a2 a3 a4 a5 a6 hk => ?_
          exact hQ s₁.heap.objs.size _ _ h' tk ⟨p1, p2⟩ (.inl ⟨_, a5, rfl, _, rfl⟩)
            ⟨Nat.succ_le_of_lt hi, hk _ _ S.TIz S.TITO S.TIi1 S.TIi2 hTI, a3, a4, .inr ⟨s₁.heap.objs.size, false, _, a1, a5, lt hz, m1, m2, Nat.ne_of_gt hds⟩⟩
            fun c o hc e => hk c o (fun x => hc (by simp [x])) (fun x => hc (by simp [x])) (fun x => hc (by simp [x])) (fun x => hc (by simp [x])) e
        · refine zipH_item S (D1 _ hA) (D2 _ hA) hz hT hTI h1 h2 l1 l2 fun x1 x2 h' tk p1 p2 a1 a3 a4 a5 hk => ?_
          exact hQ s₁.heap.objs.size _ _ h' tk ⟨p1, p2⟩ (.inl ⟨_, a5, rfl, _, rfl⟩)
            ⟨Nat.succ_le_of_lt hi, hk _ _ S.TIz S.TIi1 S.TIi2 hTI, a3, a4, .inr ⟨T, true, oT, a1, hk _ _ r1 r2 r3 hT, r1, r2, r3, r4⟩⟩
            fun c o hc e => hk c o (fun x => hc (by simp [x])) (fun x => hc (by simp [x])) (fun x => hc (by simp [x])) e
      done := fun s₁ Q₁ E₁ st hQ => by
        obtain ⟨hle, hTI, h1, h2, hz⟩ := st
        have e1 : min n1 n2 ≤ n1 := Nat.min_le_left ..
        have e2 : min n1 n2 ≤ n2 := Nat.min_le_right ..
        have hend : min n1 n2 = n1 ∨ min n1 n2 = n2 := by omega
        rcases hz with ⟨hz, a, b, hTO⟩ | ⟨T, f, oT, hz, hT, r1, r2, r3, r4⟩
        · exact wpAny_pyNext_zipD2_end S (D1 _ hA) (D2 _ hA) hz hTI hTO h1 h2 e1 e2 hend fun h' tk hk => hQ h' tk fun c o hc e => hk c o (fun x => hc (by simp [x])) (fun x => hc (by simp [x])) (fun x => hc (by simp [x])) (fun x => hc (by simp [x])) e
        · exact zipH_end S (D1 _ hA) (D2 _ hA) hz hT hTI h1 h2 e1 e2 hend fun h' tk hk => hQ h' tk fun c o hc e => hk c o (fun x => hc (by simp [x])) (fun x => hc (by simp [x])) (fun x => hc (by simp [x])) e }
end
end P
namespace P
open PySem PySem.Spec L2 G PyProof.Rows PySem.W
/-- dict(zip(xs, t)): a list and a tuple, texts as keys -/
def tDictZip (K : PySem.W.Frag) (t : TA) : TE := fun σ H Q => t σ H fun xs H2 => ∃ a b, ∃ ks : List Str, ∃ vs : List V, xs = [.ref a, .ref b] ∧ SqL K H2 a (ks.map V.str) ∧ SqT K H2 b vs ∧ ks.length = vs.length ∧
  ∀ p, H2 p = none → Q (.ref p) (upd H2 p (.dK (mergeK [] ((ks.map Sum.inr).zip vs))))
section
variable {P : Program} {w : World}
theorem draws_list {A : Around} (hh : A.handled = none) (it l : Addr) (hne : l ≠ it) (items : Array Value) : Draws P w A it [it, l] items.size (fun i v => items[i]? = some v) (fun i h => h.IsListIter it l i ∧ h.IsList l items) := Draws.list hh it l hne items
end
theorem kv_zip : ∀ {ks : List Str} {vs : List V} {us : List Value}, Vals vs us → L2.KV ((ks.map Sum.inr : List Key).zip vs) ((ks.map Sum.inr : List Key).zip us)
  | [], _, _, _ => by unfold L2.KV; exact .nil
  | _ :: _, _, _, .nil => by unfold L2.KV; exact .nil
  | k :: ks, _, _, .cons r t => by
    have ih := kv_zip (ks := ks) t
    unfold L2.KV at ih ⊢
    exact .cons ⟨rfl, r⟩ ih
theorem zip_sepLT {N l t : Nat} (hl : l < N) (ht : t < N) : ZipSep2 (N + 4) (N + 2) (N + 3) N (N + 1) [N, l] [N + 1, t] where
  TIz := fun h => by have h' : (N + 2 : Nat) = (N + 4 : Nat) := h; omega
  TOz := fun h => by have h' : (N + 3 : Nat) = (N + 4 : Nat) := h; omega
  TITO := fun h => by have h' : (N + 2 : Nat) = (N + 3 : Nat) := h; omega
  TIi1 := fun h => by have h' : (N + 2 : Nat) = (N : Nat) := h; omega
  mem1 := by simp
  zf1 := fun h => by
    rcases List.mem_cons.mp h with h | h
    · have h' : (N + 4 : Nat) = (N : Nat) := h
      omega
    · have h' : (N + 4 : Nat) = (l : Nat) := List.mem_singleton.mp h
      omega
  Tf1 := fun h => by
    rcases List.mem_cons.mp h with h | h
    · have h' : (N + 3 : Nat) = (N : Nat) := h
      omega
    · have h' : (N + 3 : Nat) = (l : Nat) := List.mem_singleton.mp h
      omega
  TIi2 := fun h => by have h' : (N + 2 : Nat) = (N + 1 : Nat) := h; omega
  mem2 := by simp
  zf2 := fun h => by
    rcases List.mem_cons.mp h with h | h
    · have h' : (N + 4 : Nat) = (N + 1 : Nat) := h
      omega
    · have h' : (N + 4 : Nat) = (t : Nat) := List.mem_singleton.mp h
      omega
  Tf2 := fun h => by
    rcases List.mem_cons.mp h with h | h
    · have h' : (N + 3 : Nat) = (N + 1 : Nat) := h
      omega
    · have h' : (N + 3 : Nat) = (t : Nat) := List.mem_singleton.mp h
      omega
  sep1_2 := fun h => by
    rcases List.mem_cons.mp h with h | h
    · have h' : (N : Nat) = (N + 1 : Nat) := h
      omega
    · have h' : (N : Nat) = (t : Nat) := List.mem_singleton.mp h
      omega
  sep2_1 := fun h => by
    rcases List.mem_cons.mp h with h | h
    · have h' : (N + 1 : Nat) = (N : Nat) := h
      omega
    · have h' : (N + 1 : Nat) = (l : Nat) := List.mem_singleton.mp h
      omega
theorem pe_dictZip {X : Cx} {a b : Expr} {ta : TA} {p p2 q pos : Pos} (hc : X.calm = true) (hg : Gl X "dict") (hm : X.mg "dict" = none) (hg2 : Gl X "zip") (hm2 : X.mg "zip" = none) (ha : PA X [a, b] ta)
    (na : starEach [a, b] X.env = (false, eval a X.env) :: starEach [b] X.env := by rfl) (nb : (backTo q (starEach [b] X.env)).any (·.1) = false := by rfl) : PE X (.Call (.Name "dict" p) [.Call (.Name "zip" p2) [a, b] [] q] [] pos) (tDictZip X.K ta) := by
  refine ⟨fun pins s σ H Q I h => ?_⟩
  refine Call_ (ld_blt I hg hm bt_dict ?_)
  refine PyProof.Rows.callWith_type1 (PyProof.Rows.args_cons ?_ rfl) rfl rfl
  refine Call_ (ld_blt I hg2 hm2 bt_zip ?_)
  refine PyProof.Rows.callWith_type1 (thn (ha.run q pins s σ H _ I h) fun us s2 ⟨ws, H2, I2, r2, q2⟩ => ?_) na nb
  obtain ⟨l, t, ks, vs, rfl, hq, ht, hlen, q3⟩ := q2
  cases r2 with
  | cons r21 r22 => cases r22 with
    | cons r22 r23 =>
    cases r21
    cases r22
    cases r23
    obtain ⟨its, r, pl, hz⟩ := I2.list hq
    obtain ⟨its2, r', pt, hz'⟩ := I2.tuple ht
    have hl : l < s2.heap.objs.size := by obtain ⟨o, ho, _⟩ := pl.isList; exact Heap.lt_size ho
    have htl : t < s2.heap.objs.size := pt.lt
    refine zip_begins2 (begins_list l its.toArray) (begins_tuple t its2.toArray) pl.isList pt fun h' g1 g2 g3 g4 g5 hsz hk => ?_
    refine PyProof.Rows.args_nil ?_
    have I3 : Inv X pins σ H2 { s2 with heap := h' } := I2.kept (t' := s2.toks) hk
    have hS := strsAre_of r
    have n1 : its.length = ks.length := by rw [← r.length, List.length_map]
    have n2 : its2.length = ks.length := by rw [← r'.length, hlen]
    have hh : X.A.handled = none := I.ok.hd hc
    have PA' := pairs_zip (prog := X.prog) (w := X.w) (zip_sepLT hl htl)
      (D1 := fun A hA => Draws.list hA s2.heap.objs.size l (Nat.ne_of_lt hl) its.toArray) (D2 := fun A hA => Draws.tuple hA (s2.heap.objs.size + 1) t (Nat.ne_of_lt (Nat.lt_succ_of_lt htl)) its2.toArray)
      (fun i h st b hb => by
        obtain ⟨⟨o1, e1, _⟩, ⟨o2, e2, _⟩⟩ := st
        simp only [List.mem_cons, List.not_mem_nil, or_false] at hb
        rcases hb with rfl | rfl
        · exact ⟨_, e1⟩
        · exact ⟨_, e2⟩)
      (fun i h st b hb => by
        obtain ⟨⟨o1, e1, _⟩, ⟨o2, e2, _⟩⟩ := st
        simp only [List.mem_cons, List.not_mem_nil, or_false] at hb
        rcases hb with rfl | rfl
        · exact ⟨_, e1⟩
        · exact ⟨_, e2⟩)
    refine PySem.call_dict_pairs (s := { s2 with heap := h' }) (knd := mixKind X.prog X.w) (kvs := (ks.map Sum.inr).zip its2) PA' hh ⟨g1, g2, ⟨_, _, g3⟩, ⟨⟨_, g4, rfl, rfl⟩, pl.isList.at fun o e => hk l o e⟩, ⟨⟨_, g5, rfl, rfl⟩, (show s2.heap.IsTuple t its2.toArray from pt).at fun o e => hk t o e⟩⟩ ⟨?_, fun i key v hkv => ?_⟩ ?_ fun h2 tk hd hk2 => ?_
    · rw [List.length_zip, List.length_map, List.size_toArray, List.size_toArray, n1, n2]
    · obtain ⟨e1, e2⟩ := hkv
      have e1' : its[i]? = some key := by simpa using e1
      have e2' : its2[i]? = some v := by simpa using e2
      have hi : i < ks.length := by rw [← n1]; exact (List.getElem?_eq_some_iff.mp e1').1
      obtain ⟨tk, ek⟩ := SS.strs_at hS i key e1'
      refine ⟨.inr ks[i], ?_, ?_⟩
      · rw [List.getElem?_zip_eq_some]
        exact ⟨by rw [List.getElem?_map, List.getElem?_eq_getElem hi]; rfl, e2'⟩
      · rw [ek, List.getD_eq_getElem?_getD, List.getElem?_eq_getElem hi]
        exact mixKind_str _ _ _ _
    · rw [List.size_toArray, List.size_toArray]
      exact Nat.le_trans (Nat.min_le_right ..) (by rw [← r'.length]; exact hz')
    · have hge : s2.heap.objs.size ≤ h'.objs.size := by rw [hsz]; exact Nat.le_add_right _ _
      have hfree : H2 h'.objs.size = none := I2.hok.fresh hge
      have hm0 : (h'.objs.size == sysModules) = false := beq_eq_false_iff_ne.mpr (Nat.ne_of_gt (Nat.lt_of_lt_of_le I2.big hge))
      have hkv := KV.merge (kv_zip (ks := ks) r') (kvs := []) (vs := []) (by unfold L2.KV; exact .nil)
      have hle : (mergeK [] ((ks.map Sum.inr : List Key).zip vs)).length ≤ sizeLine := by
        refine Nat.le_trans (length_mergeK _ _) ?_
        rw [List.length_nil, Nat.zero_add, List.length_zip]
        exact Nat.le_trans (Nat.min_le_right ..) hz'
      refine ⟨.ref h'.objs.size, _, I2.laid (t' := tk) (o := .dK (mergeK [] ((ks.map Sum.inr : List Key).zip vs))) (fun b o e => hk2 b o (fun hb => ?_) (hk b o e)) hge ⟨hle, hm0, _, hkv, hd⟩, rfl, q3 _ hfree⟩
      have hlt : b < s2.heap.objs.size := Heap.lt_size e
      simp only [List.mem_cons, List.not_mem_nil, or_false] at hb
      rcases hb with hb | hb | hb | hb <;> rw [hb] at hlt
      · exact absurd hlt (Nat.not_lt.mpr (Nat.le_add_right _ _))
      · exact absurd hlt (Nat.not_lt.mpr (Nat.le_add_right _ _))
      · exact absurd hlt (Nat.lt_irrefl _)
      · exact absurd hlt (Nat.not_lt.mpr (Nat.le_add_right _ _))
/-- the pairs put one behind another into a dict -/
def putKs (k : Key) : List Key → List Key
  | [] => [k]
  | q :: r => if q = k then q :: r else q :: putKs k r
def putPs (k : Key) (v : PV) : List Key → List PV → List PV
  | q :: r, x :: xs => if q = k then v :: xs else x :: putPs k v r xs
  | _, _ => [v]
end P

set_option Elab.async false
set_option linter.all false
set_option maxRecDepth 100000
set_option maxHeartbeats 4000000
namespace P
open PySem PySem.Spec L2 G PyProof.Rows
/-! ### dicts made -/
theorem any_none {k : Key} : ∀ {acc : List (Key × V)}, k ∉ acc.map (·.1) → (acc.any fun kv => decide (kv.1 = k)) = false
  | [], _ => rfl
  | p :: r, h => by
    rw [List.map_cons, List.mem_cons, not_or] at h
    rw [List.any_cons, any_none h.2, decide_eq_false (fun e => h.1 e.symm)]
    rfl
theorem merge_nodup : ∀ (more acc : List (Key × V)), ((acc ++ more).map (·.1)).Nodup → mergeK acc more = acc ++ more
  | [], acc, _ => by unfold mergeK; rw [List.foldl_nil, List.append_nil]
  | p :: r, acc, h => by
    have hp : p.1 ∉ acc.map (·.1) := by
      rw [List.map_append, List.map_cons, List.nodup_append] at h
      exact fun hm => h.2.2 _ hm _ List.mem_cons_self rfl
    have e : putK acc p.1 p.2 = acc ++ [p] := by
      unfold putK
      rw [any_none hp]
      rfl
    show mergeK (putK acc p.1 p.2) r = _
    rw [e, merge_nodup r (acc ++ [p]) (by rw [List.append_assoc]; exact h), List.append_assoc]
    rfl
theorem merge_zip {ks : List Key} {vs : List V} (h : ks.Nodup) (hl : ks.length = vs.length) : mergeK [] (ks.zip vs) = ks.zip vs := by
  rw [merge_nodup _ _ (by rw [List.nil_append, List.map_fst_zip (Nat.le_of_eq hl)]; exact h), List.nil_append]
section
variable {K : PySem.W.Frag} {CT : Str → Addr} {E : XK}
def dictZipM (fa : FA) : FE := fun ρ μ => (fa ρ μ).bind fun xs μ1 => match xs with
  | [x, .v (.tup qs)] => (match lstE x μ1 with
    | some ps => (match strsOf ps with
      | some ks => if ks.Nodup ∧ ks.length = qs.length then .ok (.v (.dct (ks.map Sum.inr) qs)) μ1 else .no
      | none => .no)
    | none => .no)
  | _ => .no
theorem nodup_inr : ∀ {ks : List Str}, ks.Nodup → (ks.map Sum.inr : List Key).Nodup
  | [], _ => .nil
  | k :: r, h => by
    have a := List.nodup_cons.mp h
    rw [List.map_cons]
    exact List.nodup_cons.mpr ⟨fun hm => by obtain ⟨x, hx, e⟩ := List.mem_map.mp hm; cases e; exact a.1 hx, nodup_inr a.2⟩
theorem re_dictZip {t : TA} {f : FA} (ha : RA K CT E t f) : RE K CT E (tDictZip K t) (dictZipM f) := by
  intro σ ρ w μ Q e r h
  refine ha σ ρ w μ _ e r (post_bind h fun xs vs w1 μ1 e1 r1 q1 h1 => ?_)
  split at h1
  · split at h1
    · rename_i hs
      split at h1
      · rename_i hk
        split at h1
        · rename_i hn
          cases q1 with
          | cons a q1 => cases q1 with
            | cons b q1 => cases q1 with
              | nil =>
                obtain ⟨l, us, rfl, hr, hq⟩ := lstE_at r1 a hs
                have e := strsOf_eq hr hk
                subst e
                cases b with
                | v b => cases b with
                  | tup hq2 hr2 =>
                    have hl := hn.2.trans hr2.length.symm
                    refine ⟨_, _, _, _, rfl, hq, sqT_same r1.s hq2, hl, fun p hp => ?_⟩
                    rw [merge_zip (nodup_inr hn.1) (by rw [List.length_map]; exact hl)]
                    exact post_new r1 (fun H hH s => .dct hH (by rw [List.length_map]; exact hn.2) (hr2.same s)) h1 hp
        · exact h1.elim
      · exact h1.elim
    · exact h1.elim
  · exact h1.elim
/-- the pairs of a list -/
def pairsOf : List PV → Option (List Key × List PV)
  | [] => some ([], [])
  | .tup [k, v] :: r => (match keyP k, pairsOf r with
    | some q, some (ks, vs) => some (q :: ks, v :: vs)
    | _, _ => none)
  | _ => none
def rDictP (K : PySem.W.Frag) : List V → Hp → VK → Prop := fun xs H Q => ∃ (a : Addr) (ps : List Addr) (kvs : List (Key × V)), xs = [.ref a] ∧ SqL K H a (ps.map V.ref) ∧ Paired (fun p kv => SqT K H p [kV kv.1, kv.2]) ps kvs ∧
    ∀ p, H p = none → Q (.ref p) (upd H p (.dK (mergeK [] kvs)))
def rDictC : List V → Hp → VK → Prop := fun xs H Q => ∃ (a : Addr) (kvs : List (Key × V)), xs = [.ref a] ∧ Rd H a (.dK kvs) ∧ ∀ p, H p = none → Q (.ref p) (upd H p (.dK kvs))
def rDictAll (K : PySem.W.Frag) : List V → Hp → VK → Prop := fun xs H Q => rDictP K xs H Q ∨ rDictC xs H Q
theorem c_dict {X : Cx} (hc : X.calm = true) : CallR X (.type "dict") (rDictAll X.K) := CallR.or (call_dictP hc) call_dictD
theorem pairs_at {H Hs : Hp} (s : Same Hs H) : ∀ {ps : List PV} {vs : List V} {ks : List Key} {qs : List PV}, Reps K CT Hs vs ps → pairsOf ps = some (ks, qs) → ∃ as us, vs = as.map V.ref ∧ ks.length = us.length ∧ Paired (fun p kv => SqT K H p [kV kv.1, kv.2]) as (ks.zip us) ∧ Reps K CT Hs us qs ∧ ks.length = qs.length
  | [], _, _, _, .nil, e => by
    cases e
    exact ⟨[], [], rfl, rfl, .nil, .nil, rfl⟩
  | .tup [k, v] :: r, _, _, _, .cons h t, e => by
    unfold pairsOf at e
    split at e
    · rename_i q ks' vs' hk hr
      cases e
      obtain ⟨as, us, e1, e2, e3, e4, e5⟩ := pairs_at s t hr
      cases h with
      | tup hq hr2 =>
        cases hr2 with
        | cons x1 x2 => cases x2 with
          | cons x2 x3 =>
            cases x3
            rename_i a va vb
            have ek := keyP_at (w := ⟨[], Hs, Hs⟩) x1 hk
            subst ek
            exact ⟨a :: as, vb :: us, by rw [e1]; rfl, by simp [e2], .cons (sqT_same s hq) e3, .cons x2 e4, by simp [e5]⟩
    · cases e
  | .non :: _, _, _, _, _, e | .bl _ :: _, _, _, _, _, e | .int _ :: _, _, _, _, _, e | .str _ :: _, _, _, _, _, e | .lst _ :: _, _, _, _, _, e | .frl _ :: _, _, _, _, _, e | .dct _ _ :: _, _, _, _, _, e | .ins _ _ _ :: _, _, _, _, _, e | .ty _ :: _, _, _, _, _, e | .cls _ :: _, _, _, _, _, e => by simp [pairsOf] at e
  | .tup [] :: _, _, _, _, _, e | .tup [_] :: _, _, _, _, _, e | .tup (_ :: _ :: _ :: _) :: _, _, _, _, _, e => by simp [pairsOf] at e
def dictO : List EV → Sto → Ro EV := fun xs μ => match xs with
  | [x] => (match dctE x μ with
    | some (ks, vs) => .ok (.v (.dct ks vs)) μ
    | none => (match lstE x μ with
      | some ps => (match pairsOf ps with
        | some (ks, vs) => if ks.Nodup then .ok (.v (.dct ks vs)) μ else .no
        | none => .no)
      | none => .no))
  | _ => .no
theorem rc_dict : RC K CT E (rDictAll K) dictO := by
  intro w μ vs xs Q r q h
  unfold dictO at h
  split at h
  · cases q with
    | cons q1 q2 => cases q2 with
      | nil =>
        split at h
        · rename_i hd
          obtain ⟨a, us, rfl, hH, hl, hr⟩ := dctE_at r q1 hd
          exact .inr ⟨a, _, rfl, .of hH, fun p hp => post_new r (fun H hH s => .dct hH hl (hr.same s)) h hp⟩
        · split at h
          · rename_i hs
            obtain ⟨a, us, rfl, hr, hq⟩ := lstE_at r q1 hs
            split at h
            · rename_i ks qs hp
              split at h
              · rename_i hn
                obtain ⟨as, ws, rfl, e2, e3, e4, e5⟩ := pairs_at r.s hr hp
                refine .inl ⟨a, as, _, rfl, hq, e3, fun p hpn => ?_⟩
                rw [merge_zip hn e2]
                exact post_new r (fun H hH s => .dct hH e5 (e4.same s)) h hpn
              · exact h.elim
            · exact h.elim
          · exact h.elim
  · exact h.elim
end
/-! ### (a, b, ..).index(e) of texts -/
def firstAt (z : Str) : List Str → Nat → Option Nat
  | [], _ => none
  | y :: r, i => if y = z then some i else firstAt z r (i + 1)
theorem firstAt_spec {z : Str} : ∀ {ys : List Str} {i j : Nat}, firstAt z ys i = some j → i ≤ j ∧ ys[j - i]? = some z ∧ ∀ m, m < j - i → ys[m]? ≠ some z
  | [], _, _, h => by simp [firstAt] at h
  | y :: r, i, j, h => by
    unfold firstAt at h
    split at h
    · rename_i e
      cases h
      subst e
      exact ⟨Nat.le_refl _, by simp, fun m hm => by omega⟩
    · rename_i hne
      obtain ⟨h1, h2, h3⟩ := firstAt_spec h
      have e : j - i = (j - (i + 1)) + 1 := by omega
      refine ⟨by omega, by rw [e]; simpa using h2, fun m hm => ?_⟩
      cases m with
      | zero => simpa using hne
      | succ m => simpa using h3 m (by omega)
def tTIx (ta : TA) (te : TE) : TE := fun σ H Q => ta σ H fun xs H1 => xs.length ≤ sizeLine ∧ ∀ p, H1 p = none → te σ (upd H1 p (.tup xs)) fun y H2 => ∃ (ys : List Str) (z : Str) (j : Nat), xs = ys.map V.str ∧ y = .str z ∧ H2 p = some (.tup xs) ∧ ys[j]? = some z ∧ (∀ m, m < j → ys[m]? ≠ some z) ∧ Q (.int (j : Nat)) H2
theorem pe_tupIx {X : Cx} {es : List Expr} {k : Nat} {e : Expr} {ta : TA} {te : TE} {p1 apos cpos : Pos} (ha : PA X es ta) (he : PE X e te) (m : M1 X (.Tuple es k p1) "index" apos e cpos) : PE X (.Call (.Attribute (.Tuple es k p1) "index" apos) [e] [] cpos) (tTIx ta te) := by
  refine ⟨fun pins s σ H Q I h => ?_⟩
  refine wpAny_Call_method m.base m.few m.line PySem.F.plainAttrs_tuple PySem.F.slot_tuple_index PySem.F.type_tuple_index (wpAny_Tuple_spliced (thn (ha.run p1 pins s σ H _ I h) fun us s1 ⟨xs, H1, I1, r, z, q⟩ => ⟨by rw [← r.length]; exact z, ?_⟩))
  have hf : H1 s1.heap.objs.size = none := I1.hok.fresh (Nat.le_refl _)
  have ho : (s1.heap.push { cls := .type "tuple", data := .seq us.toArray }).get? s1.heap.objs.size = some { cls := .type "tuple", data := .seq us.toArray } := Heap.get?_push_size _ rfl
  have I2 : Inv X pins σ (upd H1 s1.heap.objs.size (.tup xs)) { s1 with heap := s1.heap.push { cls := .type "tuple", data := .seq us.toArray } } := I1.laid (t' := s1.toks) (fun b u e => Heap.get?_push_of_some _ e) (Nat.le_refl _) ⟨z, us, r, ⟨_, ho, rfl, _, rfl⟩⟩
  refine ⟨⟨_, ho, rfl⟩, fun b hb => by cases hb; exact ⟨_, ho, rfl⟩, ?_⟩
  rw [m.trees]
  refine Calls.callWith_builtin rfl (Calls.evalArgs_plain (Calls.spliced_cons (thn (he.run pins _ σ _ _ I2 (q _ hf)) fun iv s2 ⟨y, H2, I3, ry, ys, zz, j, e1, e2, e3, e4, e5, q3⟩ => Calls.spliced_nil ?_)))
  subst e1 e2
  exact mt_tup_index pins s2 σ H2 (.ref s1.heap.objs.size) [.str zz] (.ref s1.heap.objs.size) [iv] Q I3 rfl (.cons ry .nil) ⟨_, ys, zz, j, rfl, rfl, .of e3, e4, e5, q3⟩
section
variable {K : PySem.W.Frag} {CT : Str → Addr} {E : XK}
def tupIxM (fa : FA) (fe : FE) : FE := fun ρ μ => (fa ρ μ).bind fun xs μ1 => valsM xs μ1 fun ps => match strsOf ps with
  | some ys => (fe ρ μ1).bind fun y μ2 => (match y with
    | .v (.str z) => (match firstAt z ys 0 with
      | some j => .ok (.v (.int (j : Nat))) μ2
      | none => .no)
    | _ => .no)
  | none => .no
theorem re_tupIx {t : TA} {f : FA} {te : TE} {fe : FE} (ha : RA K CT E t f) (he : RE K CT E te fe) : RE K CT E (tTIx t te) (tupIxM f fe) := by
  intro σ ρ w μ Q e r h
  refine ha σ ρ w μ _ e r (post_bind h fun xs vs w1 μ1 e1 r1 q1 h1 => ?_)
  obtain ⟨ps, hr, hl, h2⟩ := valsM_post q1 h1
  split at h2
  · rename_i ys hy
    have es := strsOf_eq hr hy
    subst es
    refine ⟨hl, fun p hp => ?_⟩
    have x2 := Ext.new (o := .tup (ys.map V.str)) r1 hp
    refine he σ ρ ⟨w1.α, upd w1.Hs p (.tup (ys.map V.str)), upd w1.H p (.tup (ys.map V.str))⟩ μ1 _ ((e.ext e1).ext x2) (r1.new hp) (post_bind (Post.ext x2 h2) fun y v w3 μ3 e3 r3 q3 h3 => ?_)
    split at h3
    · split at h3
      · rename_i j hj
        cases q3 with
        | v q3 =>
          cases q3
          obtain ⟨_, f2, f3⟩ := firstAt_spec hj
          exact ⟨ys, _, j, rfl, rfl, r3.s _ _ (e3.s _ _ upd_same), f2, f3, post_ok r3 (.int _) h3⟩
      · exact h3.elim
    · exact h3.elim
  · exact h2.elim
end
/-- the same of a module's tuple -/
def rTupIx (K : PySem.W.Frag) : V → List V → Hp → VK → Prop := fun x xs H Q => ∃ p, ∃ ys : List Str, ∃ z j, x = .ref p ∧ xs = [.str z] ∧ SqT K H p (ys.map V.str) ∧ ys[j]? = some z ∧ (∀ m, m < j → ys[m]? ≠ some z) ∧ Q (.int (j : Nat)) H
theorem mt_tupIx {X : Cx} : MtR X "tuple.index" (rTupIx X.K) := mt_tup_index
/-- a module's tuple of texts -/
structure TupK (K : PySem.W.Frag) (a : Addr) (ys : List Str) : Prop where
  at_ : ∃ o, K.lookup a = some o ∧ o.cls = .type "tuple" ∧ o.dict = none
  sq : ∀ H, SqT K H a (ys.map V.str)
section
variable {K : PySem.W.Frag} {CT : Str → Addr} {E : XK}
def gIxM (ys : List Str) (fa : FA) : FE := fun ρ μ => (fa ρ μ).bind fun xs μ1 => match xs with
  | [.v (.str z)] => (match firstAt z ys 0 with
    | some j => .ok (.v (.int (j : Nat))) μ1
    | none => .no)
  | _ => .no
theorem re_gIx {a : Addr} {ys : List Str} {t : TA} {f : FA} (T : TupK K a ys) (ha : RA K CT E t f) : RE K CT E (tBM K "tuple" (rTupIx K) (tC (.ref a)) t) (gIxM ys f) := by
  intro σ ρ w μ Q e r h
  refine ⟨.inr (.inl ⟨rfl, T.at_⟩), ha σ ρ w μ _ e r (post_bind h fun xs vs w1 μ1 e1 r1 q1 h1 => ?_)⟩
  split at h1
  · split at h1
    · rename_i j hj
      cases q1 with
      | cons b q1 => cases q1 with
        | nil => cases b with
          | v b =>
            cases b
            obtain ⟨_, f2, f3⟩ := firstAt_spec hj
            exact ⟨a, ys, _, j, rfl, rfl, T.sq _, f2, f3, post_ok r1 (.int _) h1⟩
    · exact h1.elim
  · exact h1.elim
end
end P

set_option Elab.async false
set_option linter.all false
set_option maxRecDepth 100000
set_option maxHeartbeats 4000000
namespace P
open PySem PySem.Spec L2 G
def makeN (c : Str) (cl : FC) (n : Nat) (fa : FA) : FE := fun ρ μ => (fa ρ μ).bind fun xs μ1 => if xs.length + 1 = n then makeS c cl xs μ1 else .no
def makeWN (c : Str) (cl : FC) (n : Nat) (fa : FA) : FE := fun ρ μ => (fa ρ μ).bind fun xs μ1 => makeW c cl n xs μ1
def callWN (cl : FC) (n : Nat) (fa : FA) : FE := fun ρ μ => (fa ρ μ).bind fun xs μ1 => callWn cl n xs μ1
def lcN (os : List Nat) (fi : FA) (g : FG) (tt : FT) (te : FE) : FE := fun ρ μ => (fi ρ μ).bind fun xs μ1 => (lcGo g tt te (wipeR ρ os) xs [] μ1).bind fun ps μ2 => .ok (.v (.lst ps)) μ2
section
variable {K : PySem.W.Frag} {CT : Str → Addr} {E : XK}
theorem re_makeN {C : Addr} {c : Str} {cl : FC} {n : Nat} {t : TA} {f : FA} (hC : C = CT c) (ha : RA K CT E t f) : RE K CT E (tMake C (spOf K CT cl n) [] E t) (makeN c cl n f) := re_make hC ha
theorem re_makeWN {C : Addr} {c : Str} {cl : FC} {n : Nat} {t : TA} {f : FA} (hC : C = CT c) (ha : RA K CT E t f) : RE K CT E (tMake C (spOf K CT cl n) [] E t) (makeWN c cl n f) := re_makeW hC ha
theorem re_callWN {t : TA} {f : FA} {cl : FC} {n : Nat} (ha : RA K CT E t f) : RE K CT E (tCall (spOf K CT cl n) [] E t) (callWN cl n f) := re_callW ha
theorem re_lcN {wi : TI} {fi : FA} {g : TG} {fg : FG} {tt : TT} {ft : FT} {te : TE} {fe : FE} {os : List Nat} (hi : RI K CT E wi fi) (hg : RGo K CT E os g fg) (ht : RT K CT E tt ft) (he : RE K CT E te fe) : RE K CT E (tLc wi g tt te os) (lcN os fi fg ft fe) := re_lc hi hg ht he
end
/-- where no exception may leave -/
def nx {α : Type} (m : Ro α) : Ro α := match m with
  | .exc _ _ _ _ => .no
  | z => z
@[simp] theorem nx_ok {α : Type} {a : α} {μ : Sto} : nx (.ok a μ) = .ok a μ := rfl
def nxM (fe : FE) : FE := fun ρ μ => nx (fe ρ μ)
def nxT (ft : FT) : FT := fun ρ μ => nx (ft ρ μ)
def propN (c : Str) (cl : FC) (fo : FE) : FE := fun ρ μ => (fo ρ μ).bind fun x μ1 => nx (match clsOf x μ1 with
  | some (c', _, _) => if c' = c then callS cl 1 [x] μ1 else .no
  | none => .no)
def propWN (c : Str) (cl : FC) (fo : FE) : FE := fun ρ μ => (fo ρ μ).bind fun x μ1 => nx (match clsOf x μ1 with
  | some (c', _, _) => if c' = c then callWn cl 1 [x] μ1 else .no
  | none => .no)
section
variable {K : PySem.W.Frag} {CT : Str → Addr} {E E' : XK}
theorem post_nx {α β : Type} {R : Wd → β → α → Prop} {w : Wd} {Q : β → Hp → Prop} {m : Ro α} (h : Post K CT R w Q E (nx m)) : Post K CT R w Q E' m := by
  cases m with
  | ok a μ => exact h
  | exc c ns vs μ => exact h.elim
  | no => exact h
theorem re_nx {te : TE} {fe : FE} (h : RE K CT E0 te fe) : RE K CT E te (nxM fe) := fun σ ρ w μ Q e r hq => h σ ρ w μ Q e r (post_nx hq)
theorem rt_nx {tt : TT} {ft : FT} (h : RT K CT E0 tt ft) : RT K CT E tt (nxT ft) := fun σ ρ w μ Q e r hq => h σ ρ w μ Q e r (post_nx hq)
theorem re_propN {C : Addr} {c : Str} {cl : FC} {to : TE} {fo : FE} (hC : C = CT c) (ho : RE K CT E to fo) : RE K CT E (tProp C (spOf K CT cl 1) [] E' to) (propN c cl fo) := by
  subst hC
  intro σ ρ w μ Q e r h
  refine ho σ ρ w μ _ e r (post_bind h fun x v w1 μ1 e1 r1 q1 h1 => ?_)
  replace h1 : Post K CT (EVRep K CT) w1 Q E' _ := post_nx h1
  split at h1
  · rename_i c' ns l hc
    split at h1
    · rename_i hcm
      subst hcm
      obtain ⟨a, dx, us, rfl, ha1⟩ := clsOf_at r1 q1 hc
      exact ⟨a, dx, _, rfl, ha1, callS_sp r1 (.cons q1 .nil) h1⟩
    · exact h1.elim
  · exact h1.elim
theorem re_propWN {C : Addr} {c : Str} {cl : FC} {to : TE} {fo : FE} (hC : C = CT c) (ho : RE K CT E to fo) : RE K CT E (tProp C (spOf K CT cl 1) [] E' to) (propWN c cl fo) := by
  subst hC
  intro σ ρ w μ Q e r h
  refine ho σ ρ w μ _ e r (post_bind h fun x v w1 μ1 e1 r1 q1 h1 => ?_)
  replace h1 : Post K CT (EVRep K CT) w1 Q E' _ := post_nx h1
  split at h1
  · rename_i c' ns l hc
    split at h1
    · rename_i hcm
      subst hcm
      obtain ⟨a, dx, us, rfl, ha1⟩ := clsOf_at r1 q1 hc
      exact ⟨a, dx, _, rfl, ha1, w1, μ1, [x], rfl, r1, .cons q1 .nil, rfl, h1⟩
    · exact h1.elim
  · exact h1.elim
end
/-- with nothing to tell: the promise of a def at level 0 -/
theorem keeps0 {P : Program} {w : World} {K : PySem.W.Frag} {mg : Str → Option Value} {base : Heap} {CT : Str → Addr} {x qual : Str} {params : Arguments} {body : List Stmt} {scope : Scope} {f : Addr} {fd : FuncData} {ps : List Str}
    (F : FunD K x qual params body scope [] [] f fd) (hb : ∀ (kV doc pm : Value) (an : Option Addr) (cdv ct : Value) (us : List Value), us.length = ps.length → bindArgs (PySem.W.fnOf x qual params body scope .none kV doc pm an cdv ct) ⟨us, []⟩ = pure (ps.zip us)) :
    KeepsAt P w K mg base 0 ps (spOf K CT (fun _ _ => .no) ps.length) f :=
  ⟨fd, ⟨spOf_len, fun A outer s H args us vs Q E hr e0 hbt r h => by
    obtain ⟨w, μ, xs, _, _, _, _, hp⟩ := h
    exact hp.elim⟩, F.bindsN hb⟩
theorem keepsStar0 {P : Program} {w : World} {K : PySem.W.Frag} {mg : Str → Option Value} {base : Heap} {CT : Str → Addr} {n : Nat} {f : Addr} : KeepsR P w K mg base 0 (spStar K CT (fun _ _ => .no) n) f :=
  ⟨fun A outer s H us vs Q E hr e0 r h => by
    obtain ⟨ws, rest, _, _, _, hp⟩ := h
    obtain ⟨w, μ, xs, _, _, _, _, hp⟩ := hp s.heap.objs.size (e0.hok.fresh (Nat.le_refl _))
    exact hp.elim⟩
end P

set_option Elab.async false
set_option linter.all false
set_option maxRecDepth 100000
set_option maxHeartbeats 4000000
/-! An expression that keeps its own things to itself. -/
namespace P
open PySem PySem.Spec L2 G
/-- the values of a row of slots alone -/
def valsE (ρ : Env) : Env := ρ.map fun e => match e with
  | some (.v p) => some (.v p)
  | _ => none
/-- in a store of its own: it sees values alone, and tells one -/
def scopeM (fe : FE) : FE := fun ρ μ => match fe (valsE ρ) [] with
  | .ok (.v p) _ => .ok (.v p) μ
  | .exc c ns vs _ => .exc c ns vs μ
  | _ => .no
section
variable {K : PySem.W.Frag} {CT : Str → Addr} {E : XK}
theorem EnvR.vals {w w' : Wd} {σ : L2.St} {ρ : Env} (hs : w'.Hs = w.Hs) (h : EnvR K CT w σ ρ) : EnvR K CT w' σ (valsE ρ) := by
  refine ⟨by rw [h.len]; unfold valsE; rw [List.length_map], fun i e q => ?_⟩
  unfold valsE at q
  rw [List.getElem?_map] at q
  cases hi : ρ[i]? with
  | none => rw [hi] at q; cases q
  | some o =>
    rw [hi] at q
    cases o with
    | none => cases q
    | some x => cases x with
      | c k => cases q
      | v p =>
        cases q
        obtain ⟨v, h1, h2⟩ := h.get i _ hi
        refine ⟨v, h1, ?_⟩
        cases h2 with
        | v h2 => exact .v (by rw [hs]; exact h2)
theorem re_scope {te : TE} {fe : FE} (h : RE K CT E te fe) : RE K CT E te (scopeM fe) := by
  intro σ ρ w μ Q e r hp
  refine h σ (valsE ρ) ⟨[], w.Hs, w.H⟩ [] Q (EnvR.vals (w := w) rfl e) r.none ?_
  unfold scopeM at hp
  split at hp
  · rename_i p μ2 hc
    rw [hc]
    intro b w2 x r2 qb
    exact hp b ⟨w.α, w2.Hs, w2.H⟩ (Ext.back (fun a h => by cases h) x) (back0 r x r2) (by cases qb with | v qb => exact .v qb)
  · rename_i c ns vs μ2 hc
    rw [hc]
    intro w2 x r2
    exact hp ⟨w.α, w2.Hs, w2.H⟩ (Ext.back (fun a h => by cases h) x) (back0 r x r2)
  · exact hp.elim
end
end P

set_option Elab.async false
set_option linter.all false
set_option maxRecDepth 100000
set_option maxHeartbeats 4000000
/-! a | b of two dicts; comprehensions of two for; dict displays. -/
namespace P
open PySem PySem.Spec L2 G PyProof.Rows
section
variable {prog : Program} {w : World} {A : Around} {E : Value → Shared → Prop} {s : Shared} {K : Type} [DecidableEq K] {knd : KeyKind prog w K}
/-- a | b: a new dict -/
theorem or_dict {a b : Addr} {ka kb : List (K × Value)} {Q : Value → Shared → Prop} (ha : (a == sysModules) = false) (hb : (b == sysModules) = false) (hsa : a < s.heap.objs.size) (hsb : b < s.heap.objs.size)
    (da : s.heap.DictOf knd a ka) (db : s.heap.DictOf knd b kb) (hz : ka.length + kb.length ≤ sizeLine)
    (h : ∀ h', h'.DictOf knd s.heap.objs.size (merged ka kb) → (∀ c o, s.heap.get? c = some o → h'.get? c = some o) → s.heap.objs.size < h'.objs.size → Q (.ref s.heap.objs.size) { s with heap := h' }) :
    wpAny (model prog w) A (binaryOp .BitOr (.ref a) (.ref b)) Q E s := by
  obtain ⟨o, es, ep, ho, hc, hdat, hk, hp, hn⟩ := id da
  have hes : es.size ≤ sizeLine + 1 := by
    have e1 := hp.length
    have e2 : es.toList.length = es.size := by simp
    omega
  refine wpAny_binaryOp_same (op := .BitOr) da.typeIs db.typeIs PySem.F.fills_dict_or PySem.F.slot_dict_or (wpAny_call_entry PySem.F.slot_dict_or da.typeIs PySem.F.entry_dict_or ?_ (PySem.F.args_dict_or_2 _ _))
  show wpAny _ _ (Builtin.Dict.dictSlotArgs "__or__" ⟨[.ref a, .ref b], []⟩ >>= _) _ _ s
  refine wpAny_bind ?_
  unfold Builtin.Dict.dictSlotArgs
  refine wpAny_bind (wpAny_notOrdered_dict da.typeIs ?_)
  show wpAny _ _ (pure (Value.ref a, Value.ref b)) _ _ s
  refine wpAny_pure ?_
  refine wpAny_bind (wpAny_bind (wpAny_isInstance (T := "dict") da.typeIs PySem.F.sub_dict_dict ?_))
  refine wpAny_isInstance (T := "dict") db.typeIs PySem.F.sub_dict_dict ?_
  simp only [Bool.not_true, Bool.false_eq_true, if_false]
  have fin : ∀ es' : Array DictEntry, es' = es → wpAny (model prog w) A.in1 (do
        let d ← Builtin.Dict.addrOf (.ref s.heap.objs.size)
        holding [.ref s.heap.objs.size] (Builtin.Dict.updateFrom "dict.__or__" d (.ref b) [] (.ref s.heap.objs.size)))
        (fun fin s' => ∃ v, fin = .done (.ret v) ∧ v ≠ .notImplemented ∧ Q v s') E { s with heap := s.heap.push { cls := .type "dict", data := .dict es' } } := by
    rintro es' rfl
    refine wpAny_bind (wpAny_pure (wpAny_holding ?_))
    have dn : (s.heap.push { cls := .type "dict", data := .dict es' }).DictOf knd s.heap.objs.size ka := ⟨_, es', 0, Heap.get?_push_size _ rfl, ⟨rfl, rfl, rfl⟩, rfl, hk, hp, hn⟩
    have db' := db.push { cls := .type "dict", data := .dict es' }
    have hdo : s.heap.objs.size ≠ b := Nat.ne_of_gt hsb
    unfold Builtin.Dict.updateFrom
    refine wpAny_bind (wpAny_typeOf db'.typeIs ?_)
    rw [if_neg (by decide)]
    refine wpAny_bind ?_
    unfold Builtin.Dict.merge
    refine wpAny_bind ?_
    unfold Builtin.Dict.readDirectly
    refine wpAny_bind (wpAny_isInstance db'.typeIs isSubtype_dict_dict ?_)
    simp only [Bool.not_true, Bool.false_eq_true, if_false]
    refine wpAny_bind (wpAny_specialOf db'.typeIs F.slot_dict_iter.lookup (wpAny_pure ?_))
    simp only [beq_self_eq_true, if_true]
    refine wpAny_bind (wpAny_pure ?_)
    refine wpAny_mergeDict (hsz := hz) hdo hb dn db' fun h' hd' ho' hs' => ?_
    show wpAny _ _ (Builtin.Dict.addKeywords _ [] >>= _) _ _ _
    refine wpAny_bind (wpAny_pure (wpAny_pure ⟨_, rfl, (fun x => nomatch x), h h' hd' (fun c o' e => ?_) ?_⟩))
    · exact (hs'.2 c (Nat.ne_of_lt (Heap.lt_size e))).trans (Heap.get?_push_of_some _ e)
    · obtain ⟨o, _, _, h0, _⟩ := hd'; exact Heap.lt_size h0
  unfold Builtin.Dict.copyOf
  refine wpAny_bind ?_
  refine wpAny_bind (wpAny_pure ?_)
  unfold Builtin.Dict.showsAll
  rw [if_neg (by rw [ha]; exact Bool.false_ne_true)]
  refine wpAny_bind (wpAny_pure ?_)
  refine wpAny_bind (wpAny_dictEntries ho hdat ?_)
  by_cases hemp : es.isEmpty = true
  · rw [if_pos hemp]
    refine wpAny_bind (wpAny_rule (wpAny_newObj_type ?_))
    exact fin #[] (Array.isEmpty_iff.mp hemp).symm
  · rw [if_neg hemp]
    refine wpAny_bind ?_
    unfold Builtin.Dict.readDirectly
    refine wpAny_bind (wpAny_isInstance da.typeIs isSubtype_dict_dict ?_)
    simp only [Bool.not_true, Bool.false_eq_true, if_false]
    refine wpAny_bind (wpAny_specialOf da.typeIs F.slot_dict_iter.lookup (wpAny_pure ?_))
    simp only [beq_self_eq_true, if_true]
    refine wpAny_bind (wpAny_entriesForEmpty (knd := knd) ho hdat hk (wpAny_newObj_type ?_ hes))
    exact fin es rfl
end
end P
namespace P
open PySem PySem.Spec L2 G PyProof.Rows
def rOrD : R2 := fun x y H Q => ∃ a b ka kb, x = .ref a ∧ y = .ref b ∧ H a = some (.dK ka) ∧ H b = some (.dK kb) ∧ ka.length + kb.length ≤ sizeLine ∧ ∀ p, H p = none → Q (.ref p) (upd H p (.dK (mergeK ka kb)))
theorem op_orD {X : Cx} : OpR X (binaryOp .BitOr) rOrD := by
  intro pins s σ H x y v u Q I rx ry h
  obtain ⟨a, b, ka, kb, rfl, rfl, hA, hB, hz, q⟩ := h
  cases rx
  cases ry
  obtain ⟨z1, m1, vs1, k1, d1⟩ := dk_rd I.hok (.of hA)
  obtain ⟨z2, m2, vs2, k2, d2⟩ := dk_rd I.hok (.of hB)
  have l1 : ka.length = vs1.length := k1.length
  have l2 : kb.length = vs2.length := k2.length
  have s1 : a < s.heap.objs.size := by obtain ⟨o, _, _, h0, _⟩ := id d1; exact Heap.lt_size h0
  have s2 : b < s.heap.objs.size := by obtain ⟨o, _, _, h0, _⟩ := id d2; exact Heap.lt_size h0
  refine or_dict m1 m2 s1 s2 d1 d2 (by omega) fun h' hd hk hsz => ?_
  have hle : (mergeK ka kb).length ≤ sizeLine := Nat.le_trans (length_mergeK _ _) hz
  have hm0 : (s.heap.objs.size == sysModules) = false := beq_eq_false_iff_ne.mpr (Nat.ne_of_gt I.big)
  exact ⟨.ref _, _, I.laid (t' := s.toks) (o := .dK (mergeK ka kb)) (fun b o e => hk b o e) (Nat.le_refl _) ⟨hle, hm0, _, KV.merge k2 k1, hd⟩, rfl, q _ I.fresh⟩
/-! ### on trees -/
def putKK (ks : List Key) (k : Key) : List Key := if hasK k ks = true then ks else ks ++ [k]
def putVV {α : Type} (ks : List Key) (vs : List α) (k : Key) (v : α) : List α := if hasK k ks = true then List.zipWith (fun q x => if q = k then v else x) ks vs else vs ++ [v]
def mgD {α : Type} : List Key → List α → List Key → List α → List Key × List α
  | ks, vs, k :: ls, u :: us => mgD (putKK ks k) (putVV ks vs k u) ls us
  | ks, vs, _, _ => (ks, vs)
theorem any_iff {k : Key} {ks : List Key} {vs : List V} (hl : ks.length = vs.length) : ((ks.zip vs).any fun kv => decide (kv.1 = k)) = hasK k ks := by
  unfold hasK
  induction ks generalizing vs with
  | nil => simp
  | cons q r ih =>
    cases vs with
    | nil => simp at hl
    | cons u us =>
      rw [List.zip_cons_cons, List.any_cons, List.any_cons, ih (by simpa using hl)]
theorem putK_zip {k : Key} {v : V} {ks : List Key} {vs : List V} (hl : ks.length = vs.length) : putK (ks.zip vs) k v = (putKK ks k).zip (putVV ks vs k v) := by
  unfold putK
  rw [any_iff hl]
  unfold putKK putVV
  by_cases c : hasK k ks = true
  · rw [if_pos c, if_pos c, if_pos c]
    clear c
    induction ks generalizing vs with
    | nil => rfl
    | cons q r ih =>
      cases vs with
      | nil => simp at hl
      | cons u us =>
        rw [List.zip_cons_cons, List.map_cons, ih (by simpa using hl), List.zipWith_cons_cons, List.zip_cons_cons]
        by_cases c : q = k
        · simp [c]
        · simp [c]
  · rw [if_neg c, if_neg c, if_neg c, List.zip_append hl]
    rfl
theorem putVV_length {α : Type} {k : Key} {v : α} {ks : List Key} {vs : List α} (hl : ks.length = vs.length) : (putKK ks k).length = (putVV ks vs k v).length := by
  unfold putKK putVV
  by_cases c : hasK k ks = true
  · rw [if_pos c, if_pos c, List.length_zipWith]; omega
  · rw [if_neg c, if_neg c, List.length_append, List.length_append, hl]; rfl
theorem merge_mg : ∀ {ls : List Key} {us : List V} {ks : List Key} {vs : List V}, ks.length = vs.length → ls.length = us.length → mergeK (ks.zip vs) (ls.zip us) = (mgD ks vs ls us).1.zip (mgD ks vs ls us).2
  | [], _, _, _, _, _ => rfl
  | _ :: _, [], _, _, _, h => by simp at h
  | k :: ls, u :: us, ks, vs, h1, h2 => by
    show mergeK (putK (ks.zip vs) k u) (ls.zip us) = _
    rw [putK_zip h1]
    exact merge_mg (putVV_length h1) (by simpa using h2)
theorem mg_length {α : Type} : ∀ {ls : List Key} {us : List α} {ks : List Key} {vs : List α}, ks.length = vs.length → (mgD ks vs ls us).1.length = (mgD ks vs ls us).2.length
  | [], _, _, _, h => by unfold mgD; exact h
  | _ :: _, [], _, _, h => by unfold mgD; exact h
  | k :: ls, u :: us, ks, vs, h1 => mg_length (ls := ls) (us := us) (putVV_length h1)
theorem mg_keys {α β : Type} : ∀ {ls : List Key} {us : List α} {ws : List β} {ks : List Key} {vs : List α} {zs : List β}, us.length = ws.length → (mgD ks vs ls us).1 = (mgD ks zs ls ws).1
  | [], _, _, _, _, _, _ => by unfold mgD; rfl
  | _ :: _, [], [], _, _, _, _ => by unfold mgD; rfl
  | _ :: _, [], _ :: _, _, _, _, h => by simp at h
  | _ :: _, _ :: _, [], _, _, _, h => by simp at h
  | k :: ls, u :: us, w :: ws, ks, vs, zs, h => by
    unfold mgD
    exact mg_keys (by simpa using h)
section
variable {K : PySem.W.Frag} {CT : Str → Addr} {E : XK}
theorem Reps.putVV {H : Hp} {k : Key} {v : V} {p : PV} (hv : Rep K CT H v p) {ks : List Key} {vs : List V} {ps : List PV} (h : Reps K CT H vs ps) : Reps K CT H (P.putVV ks vs k v) (P.putVV ks ps k p) := by
  unfold P.putVV
  by_cases c : hasK k ks = true
  · rw [if_pos c, if_pos c]
    clear c
    induction ks generalizing vs ps with
    | nil => exact .nil
    | cons q r ih =>
      cases h with
      | nil => exact .nil
      | cons a b =>
        rw [List.zipWith_cons_cons, List.zipWith_cons_cons]
        refine .cons ?_ (ih b)
        by_cases c : q = k
        · rw [if_pos c, if_pos c]; exact hv
        · rw [if_neg c, if_neg c]; exact a
  · rw [if_neg c, if_neg c]
    exact h.append (.cons hv .nil)
theorem Reps.mg {H : Hp} : ∀ {ls : List Key} {us : List V} {qs : List PV} {ks : List Key} {vs : List V} {ps : List PV}, Reps K CT H us qs → Reps K CT H vs ps → Reps K CT H (mgD ks vs ls us).2 (mgD ks ps ls qs).2
  | [], _, _, _, _, _, _, h => by unfold mgD; exact h
  | _ :: _, _, _, _, _, _, .nil, h => by unfold mgD; exact h
  | k :: ls, _, _, ks, _, _, .cons a b, h => by
    unfold mgD
    exact Reps.mg b (Reps.putVV a h)
def orO : FO := fun x y μ => match dctE x μ with
  | some (ks, ps) => (match dctE y μ with
    | some (ls, qs) => if ks.length + ls.length ≤ 64 then .ok (.v (.dct (mgD ks ps ls qs).1 (mgD ks ps ls qs).2)) μ else .no
    | none => .no)
  | none => .no
theorem rop_or : ROp K CT E rOrD orO := by
  intro w μ v u x y Q r q1 q2 h
  unfold orO at h
  split at h
  · rename_i ks ps h1
    split at h
    · rename_i ls qs h2
      split at h
      · rename_i hz
        obtain ⟨a, us, rfl, hA, hl, hr⟩ := dctE_at r q1 h1
        obtain ⟨b, ws, rfl, hB, hl2, hr2⟩ := dctE_at r q2 h2
        have e1 : ks.length = us.length := hl.trans hr.length.symm
        have e2 : ls.length = ws.length := hl2.trans hr2.length.symm
        refine ⟨a, b, _, _, rfl, rfl, hA, hB, ?_, fun p hp => ?_⟩
        · rw [List.length_zip, List.length_zip]
          have : 64 ≤ sizeLine := by decide
          omega
        · rw [merge_mg e1 e2]
          have ek : (mgD ks us ls ws).1 = (mgD ks ps ls qs).1 := mg_keys hr2.length
          rw [ek]
          exact post_new r (fun H hH s => .dct hH (mg_length hl) ((Reps.mg hr2 hr).same s)) h hp
      · exact h.elim
    · exact h.elim
  · exact h.elim
end
end P

set_option Elab.async false
set_option linter.all false
set_option maxRecDepth 100000
set_option maxHeartbeats 4000000
/-! dict displays; comprehensions of two for. -/
namespace P
open PySem PySem.Spec L2 G PyProof.Rows
section
variable {K : PySem.W.Frag} {CT : Str → Addr} {E : XK}
def dnewM : FE := fun _ μ => .ok (.v (.dct [] [])) μ
theorem re_dnew : RE K CT E tDNewK dnewM := by
  intro σ ρ w μ Q e r h p hp
  exact post_new r (fun H hH s => .dct (vs := []) (by exact hH) rfl .nil) h hp
def flatV : List (V × V) → List V
  | [] => []
  | (x, y) :: r => x :: y :: flatV r
def flatKV : List EV → Option (List Key × List PV)
  | [] => some ([], [])
  | .v k :: .v v :: r => (match keyP k, flatKV r with
    | some q, some (ks, vs) => some (q :: ks, v :: vs)
    | _, _ => none)
  | _ => none
def RPs (K : PySem.W.Frag) (CT : Str → Addr) (E : XK) (trs : List (TE × TE)) (f : FA) : Prop := ∀ (σ : L2.St) (ρ : Env) (w : Wd) (μ : Sto) (Q : List (V × V) → Hp → Prop), EnvR K CT w σ ρ → RelH K CT w μ → Post K CT (fun w' b a => EVReps K CT w' (flatV b) a) w Q E (f ρ μ) → tPairs trs σ w.H Q
theorem rps_nil : RPs K CT E [] nilM := fun σ ρ w μ Q e r h => h [] w .refl r .nil
theorem rps_cons {tk tv : TE} {fk fv : FE} {trs : List (TE × TE)} {f : FA} (hk : RE K CT E tk fk) (hv : RE K CT E tv fv) (hr : RPs K CT E trs f) : RPs K CT E ((tk, tv) :: trs) (consM fk (consM fv f)) := by
  intro σ ρ w μ Q e r h
  refine hk σ ρ w μ _ e r (post_bind h fun x v w1 μ1 e1 r1 q1 h1 => ?_)
  have h1' : Post K CT (fun w' b a => EVReps K CT w' (flatV b) a) w1 Q E ((fv ρ μ1).bind fun y μ2 => (f ρ μ2).bind fun ys μ3 => .ok (x :: y :: ys) μ3) := by
    revert h1
    unfold consM
    cases fv ρ μ1 with
    | ok y μ2 => show Post K CT _ w1 Q E (((f ρ μ2).bind fun ys μ3 => Ro.ok (y :: ys) μ3).bind fun ys μ3 => .ok (x :: ys) μ3) → Post K CT _ w1 Q E ((f ρ μ2).bind fun ys μ3 => .ok (x :: y :: ys) μ3); cases f ρ μ2 <;> exact fun h => h
    | exc c ns vs μ => exact fun h => h
    | no => exact fun h => h
  refine hv σ ρ w1 μ1 _ (e.ext e1) r1 (post_bind h1' fun y u w2 μ2 e2 r2 q2 h2 => ?_)
  refine hr σ ρ w2 μ2 _ ((e.ext e1).ext e2) r2 (post_bind h2 fun ys b w3 μ3 e3 r3 q3 h3 => ?_)
  exact h3 ((v, u) :: b) w3 .refl r3 (.cons (q1.ext (e2.trans e3)) (.cons (q2.ext e3) q3))
theorem flat_at {w : Wd} : ∀ {b : List (V × V)} {xs : List EV} {ks : List Key} {ps : List PV}, EVReps K CT w (flatV b) xs → flatKV xs = some (ks, ps) → ∃ us, b = (ks.zip us).map (fun kv => (kV kv.1, kv.2)) ∧ Reps K CT w.Hs us ps ∧ ks.length = us.length ∧ ks.length = ps.length
  | [], _, _, _, h, e => by
    unfold flatV at h
    cases h
    cases e
    exact ⟨[], rfl, .nil, rfl, rfl⟩
  | (x, y) :: r, _, _, _, h, e => by
    unfold flatV at h
    cases h with
    | cons h1 h => cases h with
      | cons h2 h3 =>
        unfold flatKV at e
        split at e
        · contradiction
        · rename_i k v r' he
          cases he
          split at e
          · rename_i q ks' vs' hk hr
            cases e
            obtain ⟨us, e1, e2, e3, e4⟩ := flat_at h3 hr
            cases h1 with
            | v h1 => cases h2 with
              | v h2 =>
                have ek := keyP_at h1 hk
                exact ⟨y :: us, by rw [e1, ek]; rfl, .cons h2 e2, by simp [e3], by simp [e4]⟩
          · cases e
        · cases e
def dispM (f : FA) : FE := fun ρ μ => (f ρ μ).bind fun xs μ1 => match flatKV xs with
  | some (ks, vs) => if ks.length ≤ 15 then .ok (.v (.dct (mgD [] [] ks vs).1 (mgD [] [] ks vs).2)) μ1 else .no
  | none => .no
theorem keepD {w w' : Wd} {D : Addr} {o : HO} (x : Ext w w') (hd : w.H D = some o) (hn : D ∉ w.α) (hs : w.Hs D = none) : w'.H D = some o ∧ D ∉ w'.α ∧ w'.Hs D = none := by
  refine ⟨x.fr D _ hd hn, fun z => (x.na D z).elim hn (fun z => by rw [hd] at z; cases z), ?_⟩
  cases q : w'.Hs D with
  | none => rfl
  | some o =>
    rcases x.ns D o q with z | z | z
    · rw [hs] at z; cases z
    · rw [hd] at z; cases z
    · exact (hn z).elim
theorem re_disp {trs : List (TE × TE)} {f : FA} (ha : RPs K CT E trs f) : RE K CT E (tDisp trs) (dispM f) := by
  intro σ ρ w μ Q e r h D hD
  have x0 : Ext w ⟨w.α, w.Hs, upd w.H D (.dK [])⟩ := Ext.hid .refl hD
  refine ha σ ρ ⟨w.α, w.Hs, upd w.H D (.dK [])⟩ μ _ (e.ext x0) (r.hid (r.notin hD) (r.free hD)) (post_at x0 h fun xs b w2 μ2 e2 r2 q2 h2 => ?_)
  obtain ⟨k1, k2, k3⟩ := keepD e2 (w := ⟨w.α, w.Hs, upd w.H D (.dK [])⟩) upd_same (r.notin hD) (r.free hD)
  refine ⟨k1, ?_⟩
  split at h2
  · rename_i ks ps hk
    split at h2
    · rename_i hl
      obtain ⟨us, rfl, hr, e3, e4⟩ := flat_at q2 hk
      refine ⟨ks.zip us, rfl, by rw [List.length_zip]; omega, ?_⟩
      have em := merge_mg (ks := []) (vs := []) rfl e3
      rw [show ([] : List Key).zip ([] : List V) = [] from rfl] at em
      rw [em]
      have ek : (mgD [] [] ks us).1 = (mgD [] [] ks ps).1 := mg_keys hr.length
      rw [ek]
      refine h2 (.ref D) ⟨w2.α, upd w2.Hs D (.dK ((mgD [] [] ks ps).1.zip (mgD [] [] ks us).2)), upd w2.H D (.dK ((mgD [] [] ks ps).1.zip (mgD [] [] ks us).2))⟩ ?_ ?_ ?_
      · exact Ext.show_ (Ext.hid (x0.trans e2) hD) hD k3
      · exact (r2.hid k2 k3).show_ k2 k3 upd_same
      · refine .v (.dct upd_same (mg_length rfl) ((Reps.mg hr .nil).same fun c u h => ?_))
        show upd w2.Hs D _ c = _
        rw [upd_ne (ne_of_none h k3)]; exact h
    · exact h2.elim
  · exact h2.elim
end
end P

namespace P
open PySem PySem.Spec L2 G PyProof.Rows
/-! ### [e for a in A .. for b in B ..]: the new list is a thing of the store while it is made -/
def pushK (k : Nat) (y : EV) (μ : Sto) : Ro Unit := match y, μ[k]? with
  | .v p, some (.lst acc) => if acc.length < sizeLine then .ok () (μ.set k (.lst (acc ++ [p]))) else .no
  | _, _ => .no
def lcK (g : FG) (tt : FT) (te : FE) (ρ0 : Env) (k : Nat) : List EV → Sto → Ro Unit
  | [], μ => .ok () μ
  | x :: xs, μ => (g x ρ0 μ).bind fun ρ1 μ1 => (tt ρ1 μ1).bind fun c μ2 => if c then (te ρ1 μ2).bind fun y μ3 => (pushK k y μ3).bind fun _ μ4 => lcK g tt te ρ0 k xs μ4 else lcK g tt te ρ0 k xs μ2
def lc2K (g : FG) (tt : FT) (fi1 : FA) (g1 : FG) (tt1 : FT) (te : FE) (os1 : List Nat) (ρ0 : Env) (k : Nat) : List EV → Sto → Ro Unit
  | [], μ => .ok () μ
  | x :: xs, μ => (g x ρ0 μ).bind fun ρ1 μ1 => (tt ρ1 μ1).bind fun c μ2 => if c then (fi1 ρ1 μ2).bind fun ys μ3 => (lcK g1 tt1 te (wipeR ρ1 os1) k ys μ3).bind fun _ μ4 => lc2K g tt fi1 g1 tt1 te os1 ρ0 k xs μ4 else lc2K g tt fi1 g1 tt1 te os1 ρ0 k xs μ2
def lc2M (os : List Nat) (fi : FA) (g : FG) (tt : FT) (os1 : List Nat) (fi1 : FA) (g1 : FG) (tt1 : FT) (te : FE) : FE := fun ρ μ => (fi ρ μ).bind fun xs μ1 => (lc2K g tt fi1 g1 tt1 te os1 (wipeR ρ os) μ1.length xs (μ1 ++ [.lst []])).bind fun _ μ2 => freeze (.c μ1.length) μ2
section
variable {K : PySem.W.Frag} {CT : Str → Addr} {E : XK}
theorem bind_bind {α β γ : Type} {m : Ro α} {g : α → Sto → Ro β} {h : β → Sto → Ro γ} : (m.bind g).bind h = m.bind fun a μ => (g a μ).bind h := by cases m <;> rfl
theorem if_bind {α β : Type} {c : Prop} [Decidable c] {a b : Ro α} {h : α → Sto → Ro β} : (if c then a else b).bind h = if c then a.bind h else b.bind h := by split <;> rfl
theorem lc_inner {g : TG} {fg : FG} {tt : TT} {ft : FT} {te : TE} {fe : FE} {os : List Nat} {J : It} {items : List EV} {w0 w1 : Wd} {D : Addr} {k : Nat} {σ : L2.St} {ρ : Env} {μ : Sto} {Go : Sto → Ro EV} {Q : VK} {Nx : Hp → Prop}
    (hg : RGo K CT E os g fg) (ht : RT K CT E tt ft) (he : RE K CT E te fe) (x1 : Ext w0 w1) (e1 : EnvR K CT w1 σ ρ) (q1 : RIt K CT w1 J items) (r1 : RelH K CT w1 μ) (hk : w1.α[k]? = some D)
    (h : Post K CT (EVRep K CT) w0 Q E ((lcK fg ft fe (wipeR ρ os) k items μ).bind fun _ μ' => Go μ'))
    (hNx : ∀ w' μ', Ext w0 w' → Ext w1 w' → RelH K CT w' μ' → Post K CT (EVRep K CT) w0 Q E (Go μ') → Nx w'.H) :
    ∃ W1 : Nat → Nat → Hp → Prop, (∃ m, W1 0 m w1.H) ∧ ∀ j m H, W1 j m H → (J.stop j H ∧ Nx H) ∨ (J.go j H ∧ ∃ Nx1 : Hp → Prop, (∀ H', Nx1 H' → ∃ m', m' < m ∧ W1 (j + 1) m' H') ∧ ∀ x H', J.yld j H x H' → g x (wipe σ os) H' fun σ3 H5 => wipe σ3 os = wipe σ os ∧ tt σ3 H5 fun b H6 =>
        if b = true then te σ3 H6 fun y H7 => ∃ acc, H7 D = some (.lst acc) ∧ acc.length < sizeLine ∧ Nx1 (upd H7 D (.lst (acc ++ [y]))) else Nx1 H6) := by
  have eW := e1.wipe os
  refine ⟨fun i m H' => m + i = items.length ∧ ∃ w' μ', w'.H = H' ∧ Ext w0 w' ∧ Ext w1 w' ∧ RelH K CT w' μ' ∧
      Post K CT (EVRep K CT) w0 Q E ((lcK fg ft fe (wipeR ρ os) k (items.drop i) μ').bind fun _ μ' => Go μ'),
    ⟨items.length, rfl, w1, μ, rfl, x1, .refl, r1, h⟩, ?_⟩
  clear h r1
  rintro i m H' ⟨hm, w', μ', rfl, x0', x', r', h'⟩
  obtain ⟨hst, hgo⟩ := q1 w' μ' x' r'
  by_cases hlt : i < items.length
  · obtain ⟨hgo1, hy⟩ := hgo i items[i] (by simp [hlt])
    refine .inr ⟨hgo1, _, fun _ z => z, fun x H2 y => ?_⟩
    obtain ⟨w2, x2, r2, rfl, v2⟩ := hy x H2 y
    rw [List.drop_eq_getElem_cons hlt] at h'
    unfold lcK at h'
    rw [bind_bind] at h'
    refine hg x _ _ _ w2 μ' _ v2 (eW.ext (x'.trans x2)) r2 (post_at (x0'.trans x2) h' fun ρ3 σ3 w3 μ3 e3 r3 q3 h3 => ?_)
    refine ⟨q3.2.trans (wipe_wipe σ os), ?_⟩
    rw [bind_bind] at h3
    refine ht _ _ w3 μ3 _ q3.1 r3 (post_at (x0'.trans (x2.trans e3)) h3 fun c b w4 μ4 e4 r4 q4 h5 => ?_)
    subst q4
    have x4 := x'.trans (x2.trans (e3.trans e4))
    have x40 := x0'.trans (x2.trans (e3.trans e4))
    cases b with
    | false => exact ⟨m - 1, by omega, by omega, w4, μ4, rfl, x40, x4, r4, h5⟩
    | true =>
      rw [if_pos rfl] at h5 ⊢
      rw [bind_bind] at h5
      refine he _ _ w4 μ4 _ (q3.1.ext e4) r4 (post_at x40 h5 fun y u w5 μ5 e5 r5 q5 h7 => ?_)
      have hk5 : w5.α[k]? = some D := prefix_get (x4.trans e5).al hk
      unfold pushK at h7
      split at h7
      · rename_i p acc hc
        split at h7
        · rename_i hl
          obtain ⟨n5, vs, d5, s5⟩ := r5.cell _ _ _ hc hk5
          cases q5 with
          | v q5 =>
            have hmem : D ∈ w5.α := List.mem_of_getElem? hk5
            have hnn : w5.H D ≠ none := by rw [d5]; exact fun h => nomatch h
            have xm : Ext w5 ⟨w5.α, w5.Hs, upd w5.H D (.lst (vs ++ [u]))⟩ := Ext.mut hmem hnn
            refine ⟨vs, d5, by rw [s5.length]; exact hl, m - 1, by omega, by omega, ⟨w5.α, w5.Hs, upd w5.H D (.lst (vs ++ [u]))⟩, _, rfl, (x40.trans e5).trans xm, (x4.trans e5).trans xm, r5.mut hk5 n5 ?_, h7⟩
            exact ⟨n5, vs ++ [u], upd_same, s5.append (.cons q5 .nil)⟩
        · exact h7.elim
      · exact h7.elim
  · have : i = items.length := by omega
    subst this
    rw [List.drop_of_length_le (Nat.le_refl _)] at h'
    exact .inl ⟨hst, hNx w' μ' x0' x' r' h'⟩
theorem re_lc2 {wi wi1 : TI} {fi fi1 : FA} {g g1 : TG} {fg fg1 : FG} {tt tt1 : TT} {ft ft1 : FT} {te : TE} {fe : FE} {os os1 : List Nat} (hi : RI K CT E wi fi) (hg : RGo K CT E os g fg) (ht : RT K CT E tt ft) (hi1 : RI K CT E wi1 fi1) (hg1 : RGo K CT E os1 g1 fg1) (ht1 : RT K CT E tt1 ft1) (he : RE K CT E te fe) :
    RE K CT E (tLc2 wi g tt wi1 g1 tt1 te os os1) (lc2M os fi fg ft os1 fi1 fg1 ft1 fe) := by
  intro σ ρ w μ Q e r h
  refine hi σ ρ w μ _ e r (post_bind h fun items J w1 μ1 e1 r1 q1 h1 => ?_)
  intro D hD
  have eW := (e.ext e1).wipe os
  have x0 : Ext w1 ⟨w1.α ++ [D], w1.Hs, upd w1.H D (.lst [])⟩ := Ext.cell r1 hD
  have hk0 : (w1.α ++ [D])[μ1.length]? = some D := by rw [← r1.len]; simp
  refine ⟨fun i m H' => m + i = items.length ∧ ∃ w' μ', w'.H = H' ∧ Ext w1 w' ∧ RelH K CT w' μ' ∧ w'.α[μ1.length]? = some D ∧
      Post K CT (EVRep K CT) w1 Q E ((lc2K fg ft fi1 fg1 ft1 fe os1 (wipeR ρ os) μ1.length (items.drop i) μ').bind fun _ μ2 => freeze (.c μ1.length) μ2),
    ⟨items.length, rfl, ⟨w1.α ++ [D], w1.Hs, upd w1.H D (.lst [])⟩, _, rfl, x0, r1.addCell (x := .lst []) hD ⟨r1.free hD, [], upd_same, .nil⟩, hk0, h1⟩, ?_⟩
  rintro i m H' ⟨hm, w', μ', rfl, x', r', hk, h'⟩
  obtain ⟨hst, hgo⟩ := q1 w' μ' x' r'
  by_cases hlt : i < items.length
  · obtain ⟨hgo1, hy⟩ := hgo i items[i] (by simp [hlt])
    refine .inr ⟨hgo1, _, fun _ z => z, fun x H2 y => ?_⟩
    obtain ⟨w2, x2, r2, rfl, v2⟩ := hy x H2 y
    rw [List.drop_eq_getElem_cons hlt] at h'
    unfold lc2K at h'
    rw [bind_bind] at h'
    refine hg x _ _ _ w2 μ' _ v2 (eW.ext (x'.trans x2)) r2 (post_at (x'.trans x2) h' fun ρ3 σ3 w3 μ3 e3 r3 q3 h3 => ?_)
    refine ⟨q3.2.trans (wipe_wipe σ os), ?_⟩
    rw [bind_bind] at h3
    refine ht _ _ w3 μ3 _ q3.1 r3 (post_at (x'.trans (x2.trans e3)) h3 fun c b w4 μ4 e4 r4 q4 h5 => ?_)
    subst q4
    have x4 := x'.trans (x2.trans (e3.trans e4))
    have hk4 : w4.α[μ1.length]? = some D := prefix_get (x2.trans (e3.trans e4)).al hk
    cases b with
    | false => exact ⟨m - 1, by omega, by omega, w4, μ4, rfl, x4, r4, hk4, h5⟩
    | true =>
      rw [if_pos rfl] at h5 ⊢
      rw [bind_bind] at h5
      refine hi1 _ _ w4 μ4 _ (q3.1.ext e4) r4 (post_at x4 h5 fun ys J1 w5 μ5 e5 r5 q5 h7 => ?_)
      rw [bind_bind] at h7
      have hk5 : w5.α[μ1.length]? = some D := prefix_get e5.al hk4
      exact lc_inner hg1 ht1 he (x4.trans e5) ((q3.1.ext e4).ext e5) q5 r5 hk5 h7 fun w6 μ6 x06 x6 r6 h8 => ⟨m - 1, by omega, by omega, w6, μ6, rfl, x06, r6, prefix_get x6.al hk5, h8⟩
  · have : i = items.length := by omega
    subst this
    rw [List.drop_of_length_le (Nat.le_refl _)] at h'
    exact .inl ⟨hst, freeze_post r' (.c hk) (Post.ext x' h')⟩
end
end P

set_option Elab.async false
set_option linter.all false
set_option maxRecDepth 100000
set_option maxHeartbeats 4000000
/-! sorted(set(t)) of a tuple of texts -/
namespace P
open PySem PySem.Spec L2 G PyProof.Rows
theorem sub_tuple_setP : isSubtype (.type "tuple") (.type "set") = pure false := by rw [isSubtype_type]; kernel_rfl
theorem sub_tuple_frozensetP : isSubtype (.type "tuple") (.type "frozenset") = pure false := by rw [isSubtype_type]; kernel_rfl
section
variable {P : Program} {w : World} {A : Around} {E : Value → Shared → Prop} {s : Shared}
set_option maxHeartbeats 3200000 in
/-- set(xs) -/
theorem txt_setT {l : Addr} {items : Array Value} (ns : List Str) {Q : Value → Shared → Prop} (hh : A.handled = none) (hl : s.heap.IsTuple l items) (hit : StrsAre items.toList ns) (hb : ns.length + 1 < scanBound)
    (h : ∀ (h' : Heap) (tk : Nat), TxtSet P w h' s.heap.objs.size ns → (∀ b o, s.heap.get? b = some o → h'.get? b = some o) → Q (.ref s.heap.objs.size) { s with heap := h', toks := tk }) :
    wpAny (model P w) A (call (.type "set") [.ref l]) Q E s := by
  have hisz : items.size = ns.length := by rw [← StrsAre.len_eq hit, Array.length_toList]
  obtain ⟨c, tl, hmro⟩ := F.called_set.mro
  have hmade := F.called_set.made
  have hsub := F.called_set.sub
  refine wpAny_call (codeAny_of_tree ?_)
  show wpAny _ _ (callAny (.type "set") _) _ _ _
  refine wpAny_pure ⟨Code.quiet_builtin _ (by decide +kernel), codeAny_builtin F.entry_type_call ?_⟩
  rw [Around.under_plain (weight_type_call_type "set" [.ref l] []) rfl]
  have h1 := F.called_set.notType
  have h2 := F.called_set.canCreate
  have hct := F.typeCall_set_1 (.ref l)
  repeat (any_goals (first | assumption | wp_step))

  refine codeAny_mono (code_set_led1 (.ref l) (E := E) (Q₁ := fun obj s₁ => obj = .ref s.heap.objs.size ∧ s₁ = { s with heap := s.heap.push { cls := .type "set", dict := none, data := .set #[] 0 (.fresh 0 0 (!w.params.followText "set-order")) } }) ⟨rfl, rfl⟩) fun r s₁ hr => ?_
  cases r with
  | error e => exact hr
  | ok fl =>
    cases fl with
    | ret obj =>
      obtain ⟨rfl, rfl⟩ := hr
      have hS : (s.heap.push { cls := .type "set", dict := none, data := .set #[] 0 (.fresh 0 0 (!w.params.followText "set-order")) }).get? s.heap.objs.size = some { cls := .type "set", dict := none, data := .set #[] 0 (.fresh 0 0 (!w.params.followText "set-order")) } := Heap.get?_push_size _ rfl
      have hT : Shared.TypeIs { s with heap := s.heap.push { cls := .type "set", dict := none, data := .set #[] 0 (.fresh 0 0 (!w.params.followText "set-order")) } } (.ref s.heap.objs.size) "set" := ⟨_, hS, rfl⟩
      have hli := F.called_set.init.lookup
      have hbi := F.called_set.init.bind (.ref s.heap.objs.size)
      repeat (any_goals (first | assumption | wp_step))

      refine codeAny_mono (codeAny_call_builtin (R := wants (fun r s₂ => r = .none ∧ ∃ h' tk, s₂ = { s with heap := h', toks := tk } ∧ TxtSet P w h' s.heap.objs.size ns ∧ (∀ b o, s.heap.get? b = some o → h'.get? b = some o)) E) F.called_set.init.plain F.entry_set_init (check_set_init_1 hT ?_)) fun r₂ s₂ hr₂ => ?_
      · obtain ⟨ol, hol, hcl, nl, hdl⟩ := hl
        obtain ⟨ocls, odict, odata, oslots⟩ := ol
        simp only at hcl hdl
        subst hcl; subst hdl
        have hol' : (s.heap.push { cls := .type "set", dict := none, data := .set #[] 0 (.fresh 0 0 (!w.params.followText "set-order")) }).get? l = some { cls := .type "tuple", dict := odict, data := .seq items nl, slots := oslots } := Heap.get?_push_of_some _ hol
        have hsls := sub_tuple_setP
        have hslf := sub_tuple_frozensetP
        have hne : (Value.type "tuple" == Value.type "dict") = false := by decide
        have hl1 : (s.heap.push { cls := .type "set", dict := none, data := .set #[] 0 (.fresh 0 0 (!w.params.followText "set-order")) }).IsTuple l items := ⟨_, hol', rfl, nl, rfl⟩
        unfold Builtin.«set.__init__» noKeywords Builtin.Frozenset.updateFrom
        generalize hPI : pyIter = PI
        wp_walk
        subst hPI

        refine wpAny_pyIter_tuple hl1 ?_
        refine wpAny_bind (wpAny_runValue ?_)
        have hlS : l < s.heap.objs.size := Heap.lt_size hol
        have hh3 : A.in1.in1.in1.handled = none := by simp [hh]
        have hneI : l ≠ (s.heap.push { cls := .type "set", dict := none, data := .set #[] 0 (.fresh 0 0 (!w.params.followText "set-order")) }).objs.size := by
          rw [Heap.size_push]; exact Nat.ne_of_lt (Nat.lt_succ_of_lt hlS)
        have hSf : s.heap.objs.size ∉ [(s.heap.push { cls := .type "set", dict := none, data := .set #[] 0 (.fresh 0 0 (!w.params.followText "set-order")) }).objs.size, l] := by
          rw [Heap.size_push]; simp only [List.mem_cons, List.mem_singleton, List.not_mem_nil, or_false, not_or]
          exact ⟨Nat.ne_of_lt (Nat.lt_succ_self _), Nat.ne_of_gt hlS⟩
        have hval : ∀ (i : Nat) (v : Value), items[i]? = some v → ∃ k t, ns[i]? = some k ∧ v = .str k t := fun i v hv => by
          have hi : i < ns.length := by rw [← hisz]; exact (Array.getElem?_eq_some_iff.mp hv).1
          obtain ⟨t, e⟩ := SS.strs_at hit i v (by rw [Array.getElem?_toList]; exact hv)
          refine ⟨ns[i], t, List.getElem?_eq_getElem hi, ?_⟩
          rw [e, List.getD_eq_getElem?_getD, List.getElem?_eq_getElem hi] <;> rfl
        refine txt_update ((Walks.tuple hh3 _ l hneI items).toS) s.heap.objs.size
          hSf ns hisz hb hval (items.size - 0) 0 _ (by omega) (Nat.zero_le _)
          ⟨⟨_, Heap.get?_push_size _ rfl, rfl, rfl⟩, (hl1.push _)⟩ ?hS0 ?hR
        case hS0 =>
          exact txt_fresh (Heap.get?_push_of_some _ hS)
        case hR =>
          intro s' hm hS'
          obtain ⟨h', g2, d', tk', os'⟩ := s'
          have eg : g2 = s.gens := hm.gens
          have ed : d' = s.drawn := hm.drawn
          have eo : os' = s.os := hm.os
          subst eg; subst ed; subst eo
          show wpAny _ _ _ _ _ _
          refine wpAny_pure ?_
          show wpAny _ _ (ret Value.none) _ _ _
          refine wpAny_pure ⟨rfl, h', tk', rfl, hS', fun b o e => ?_⟩
          have hb0 : b < s.heap.objs.size := Heap.lt_size e
          have hb1 : b ≠ s.heap.objs.size := Nat.ne_of_lt hb0
          have hb2 : b ≠ (s.heap.push { cls := .type "set", dict := none, data := .set #[] 0 (.fresh 0 0 (!w.params.followText "set-order")) }).objs.size := by
            rw [Heap.size_push]; exact Nat.ne_of_lt (Nat.lt_succ_of_lt hb0)
          exact hm.heap b o (by simp only [List.mem_cons, List.mem_singleton, List.not_mem_nil, or_false, not_or]; exact ⟨hb1, hb2⟩) (Heap.get?_push_of_some _ (Heap.get?_push_of_some _ e))
      · cases r₂ with
        | error e => exact hr₂
        | ok fl₂ =>
          cases fl₂ with
          | ret r =>
            obtain ⟨rfl, h', tk, rfl, hS', hk'⟩ := hr₂
            repeat (any_goals (first | assumption | wp_step))
            exact h _ _ hS' hk'
          | _ => exact hr₂.elim
    | _ => exact hr.elim
end
def tSortSetT (K : PySem.W.Frag) (ta : TE) : TE := fun σ H Q => ta σ H fun x H1 => ∃ l, ∃ xs : List Str, x = .ref l ∧ SqT K H1 l (xs.map V.str) ∧ xs.length < 64 ∧ ∀ p, H1 p = none → Q (.ref p) (upd H1 p (.lst ((sortU xs).map V.str)))
theorem pe_sortSetT {X : Cx} {a : Expr} {ta : TE} {p p2 q pos : Pos} (hc : X.calm = true) (hg : Gl X "sorted") (hm : X.mg "sorted" = none) (hg2 : Gl X "set") (hm2 : X.mg "set" = none) (ha : PE X a ta)
    (na : starEach [a] X.env = (false, eval a X.env) :: starEach [] X.env := by rfl) : PE X (.Call (.Name "sorted" p) [.Call (.Name "set" p2) [a] [] q] [] pos) (tSortSetT X.K ta) := by
  refine ⟨fun pins s σ H Q I h => ?_⟩
  refine Call_ (ld_blt I hg hm bt_sorted ?_)
  refine PyProof.Rows.callWith_builtin1 (PyProof.Rows.args_cons ?_ rfl) rfl rfl
  refine Call_ (ld_blt I hg2 hm2 boot_set ?_)
  refine PyProof.Rows.callWith_type1 (PyProof.Rows.args_cons (thn (ha.run pins s σ H _ I h) fun v s1 ⟨x, H1, I1, r1, q1⟩ => PyProof.Rows.args_nil ?_) na) na rfl
  obtain ⟨l, xs, rfl, hq, h64, q1⟩ := q1
  cases r1
  obtain ⟨its, r, pl, hz⟩ := I1.tuple hq
  refine txt_setT xs (I1.ok.hd hc) pl (by simpa using strsAre_of r) (Nat.lt_of_le_of_lt (Nat.succ_le_of_lt h64) (by decide)) fun h' tk hS hk => ?_
  refine PyProof.Rows.args_nil ?_
  have I2 : Inv X pins σ H1 { s1 with heap := h', toks := tk } := I1.kept hk
  refine sorted_txt (s := { s1 with heap := h', toks := tk }) hS (I1.ok.hd hc) h64 fun s' b out c k g o hb hg hi => ?_
  have hn : H1 b = none := I2.hok.fresh hb
  have hlen : ((sortU xs).map V.str).length ≤ sizeLine := by
    rw [List.length_map, sizeLine_eq]
    have := sortU_len xs
    omega
  have J : Inv X pins σ (upd H1 b (.lst ((sortU xs).map V.str))) s' :=
    I2.call' (ch := []) o (Un.laid k hb hn) (I2.hok.laid k hb ⟨hlen, out.toList, c, vals_strs hi, hg⟩) (by rw [g]; exact I2.bare) (fun _ z => nomatch z)
  exact ⟨.ref b, _, J, rfl, q1 b hn⟩
def sortSetTM (fe : FE) : FE := fun ρ μ => (fe ρ μ).bind fun x μ1 => match x with
  | .v (.tup ps) => (match strsOf ps with
    | some xs => if xs.length < 64 then .ok (.v (.lst ((sortU xs).map PV.str))) μ1 else .no
    | none => .no)
  | _ => .no
section
variable {K : PySem.W.Frag} {CT : Str → Addr} {E : XK}
theorem re_sortSetT {te : TE} {fe : FE} (he : RE K CT E te fe) : RE K CT E (tSortSetT K te) (sortSetTM fe) := by
  intro σ ρ w μ Q e r h
  refine he σ ρ w μ _ e r (post_bind h fun x v w1 μ1 e1 r1 q1 h1 => ?_)
  split at h1
  · split at h1
    · rename_i hx
      split at h1
      · rename_i hl
        cases q1 with
        | v q1 => cases q1 with
          | tup hq hr =>
            have e := strsOf_eq hr hx
            subst e
            exact ⟨_, _, rfl, sqT_same r1.s hq, hl, fun p hp => post_new r1 (fun H hH s => .lst hH (Reps.strs _)) h1 hp⟩
      · exact h1.elim
    · exact h1.elim
  · exact h1.elim
end
end P

set_option Elab.async false
set_option linter.all false
set_option maxRecDepth 100000
set_option maxHeartbeats 4000000
/-! list(range(n)) -/
namespace P
open PySem PySem.Spec L2 G PyProof.Rows
def intsN (n : Nat) : List PV := (List.range n).map fun i => PV.int (i : Nat)
def rgListM (fe : FE) : FE := fun ρ μ => (fe ρ μ).bind fun x μ1 => match x with
  | .v (.int n) => if 0 ≤ n ∧ n ≤ 10000 then .ok (.v (.lst (intsN n.toNat))) μ1 else .no
  | _ => .no
section
variable {K : PySem.W.Frag} {CT : Str → Addr} {E : XK}
theorem rg_reps {H : Hp} (l : List Nat) : Reps K CT H (l.map fun i => V.int (0 + (i : Nat))) (l.map fun i => PV.int (i : Nat)) := by
  induction l with
  | nil => exact .nil
  | cons a r ih =>
    rw [List.map_cons, List.map_cons]
    refine .cons ?_ ih
    rw [Int.zero_add]
    exact .int _
theorem re_listRg {te : TE} {fe : FE} (he : RE K CT E te fe) : RE K CT E (tLstRg (tRg1 te)) (rgListM fe) := by
  intro σ ρ w μ Q e r h
  refine he σ ρ w μ _ e r (post_bind h fun x v w1 μ1 e1 r1 q1 h1 => ?_)
  split at h1
  · split at h1
    · rename_i n hn
      cases q1 with
      | v q1 =>
        cases q1
        refine ⟨n, rfl, RgOk.of_le (Int.le_refl _) (by omega) (by omega) hn.1, fun p hp => ?_⟩
        unfold rgV
        rw [Int.sub_zero]
        exact post_new r1 (fun H hH s => .lst hH (rg_reps _)) h1 hp
    · exact h1.elim
  · exact h1.elim
end
end P
namespace P
open PySem PySem.Spec L2 G PyProof.Rows
section
variable {K : PySem.W.Frag} {CT : Str → Addr} {E : XK}
/-- x, y = (a, b) where the stores are not swapped: the tuple is made, and nobody keeps it -/
theorem rs_parT {i j : Nat} {ta : TA} {fa : FA} (ha : RA K CT E ta fa) : RS K CT E (tAsg (tTup ta) (gTup K 2 (gCons (gName i) (gCons (gName j) gNil)))) (parS i j fa) := by
  intro D σ ρ w μ e r h
  refine ha σ ρ w μ _ e r (post_stm h fun xs vs w1 μ1 e1 r1 q1 h1 => ?_)
  split at h1
  · cases q1 with
    | cons a q1 => cases q1 with
      | cons b q1 =>
        cases q1
        rename_i x1 y1 v1 v2
        refine ⟨by show 2 ≤ sizeLine; decide, fun p hp => ⟨p, _, rfl, .inl (.of upd_same), rfl, _, _, rfl, _, _, rfl, rfl, ?_⟩⟩
        have x0 : Ext w1 ⟨w1.α, w1.Hs, upd w1.H p (.tup [v1, v2])⟩ := Ext.hid .refl hp
        exact h1 _ ⟨w1.α, w1.Hs, upd w1.H p (.tup [v1, v2])⟩ x0 (r1.hid (r1.notin hp) (r1.free hp)) ((((e.ext e1).ext x0).set i (a.ext x0)).set j (b.ext x0))
  · exact h1.elim
end
end P

set_option Elab.async false
set_option linter.all false
set_option maxRecDepth 100000
set_option maxHeartbeats 4000000
namespace P
open PySem PySem.Spec L2 G
class Tag {β : Sort u} (q : β) : Type where
instance instTag {β : Sort u} (q : β) : Tag q := ⟨⟩
abbrev XQ := Str → List Str → List PV → Sto → Prop
def WpE {α : Type} (m : Ro α) (Q : α → Sto → Prop) (X : XQ) [Tag Q] [Tag X] : Prop := match m with
  | .ok a μ => Q a μ
  | .exc c ns vs μ => X c ns vs μ
  | .no => False
def WpS (m : So) (Q : So → Prop) [Tag Q] : Prop := match m with
  | .no => False
  | m => Q m
theorem WpE_ext {α : Type} {m : Ro α} {Q Q' : α → Sto → Prop} {X : XQ} (h : ∀ a μ, Q a μ = Q' a μ) : WpE m Q X = WpE m Q' X := by
  have e : Q = Q' := funext fun a => funext fun μ => h a μ
  subst e
  rfl
theorem WpS_ext {m : So} {S S' : So → Prop} (h : ∀ z, S z = S' z) : WpS m S = WpS m S' := by
  have e : S = S' := funext h
  subst e
  rfl
def xS (Q : So → Prop) : XQ := fun c ns vs μ => Q (.exc c ns vs μ)
def seqK (g : FS) (Q : So → Prop) (m : So) : Prop := match m with
  | .nx ρ μ => WpS (g ρ μ) Q
  | m => Q m
def turnK (again : FS) (Q : So → Prop) (m : So) : Prop := match m with
  | .nx ρ μ => WpS (again ρ μ) Q
  | .ct ρ μ => WpS (again ρ μ) Q
  | .bk ρ μ => Q (.nx ρ μ)
  | m => Q m
def finK (Q : EV → Sto → Prop) (X : XQ) (m : So) : Prop := match m with
  | .nx _ μ => Q (.v .non) μ
  | .rt r μ => Q r μ
  | .exc c ns vs μ => X c ns vs μ
  | _ => False
/-- a slot is set -/
def updE (ρ : Env) (i : Nat) (x : EV) (k : Env → Prop) [Tag k] : Prop := k (ρ.set i (some x))
/-- first a, then k -/
def evK {α : Type} (a : α) (k : α → Prop) [Tag k] : Prop := k a
theorem evK_eq {α : Type} {a : α} {k : α → Prop} : evK a k = k a := by unfold evK; exact propext Iff.rfl
def optK {α : Type} (o : Option α) (k : α → Prop) [Tag k] : Prop := match o with
  | some a => k a
  | none => False
theorem optK_some {α : Type} {a : α} {k : α → Prop} : optK (some a) k = k a := by unfold optK; exact propext Iff.rfl
theorem optK_none {α : Type} {k : α → Prop} : optK (none : Option α) k = False := by unfold optK; exact propext Iff.rfl
section
variable {α β : Type} {Q : α → Sto → Prop} {X : XQ} {a : α} {μ : Sto} {c : Str} {ns : List Str} {vs : List PV} {ρ : Env} {i : Nat} {x : EV} {S : So → Prop}
theorem w_ok : WpE (.ok a μ) Q X = Q a μ := by unfold WpE; exact propext Iff.rfl
theorem w_exc : WpE (.exc c ns vs μ) Q X = X c ns vs μ := by unfold WpE; exact propext Iff.rfl
theorem w_no : WpE .no Q X = False := by unfold WpE; exact propext Iff.rfl
theorem w_bind {m : Ro β} {g : β → Sto → Ro α} : WpE (m.bind g) Q X = WpE m (fun a μ => WpE (g a μ) Q X) X := by cases m <;> exact propext Iff.rfl
theorem s_nx : WpS (.nx ρ μ) S = S (.nx ρ μ) := by unfold WpS; exact propext Iff.rfl
theorem s_rt : WpS (.rt x μ) S = S (.rt x μ) := by unfold WpS; exact propext Iff.rfl
theorem s_bk : WpS (.bk ρ μ) S = S (.bk ρ μ) := by unfold WpS; exact propext Iff.rfl
theorem s_ct : WpS (.ct ρ μ) S = S (.ct ρ μ) := by unfold WpS; exact propext Iff.rfl
theorem s_exc : WpS (.exc c ns vs μ) S = S (.exc c ns vs μ) := by unfold WpS; exact propext Iff.rfl
theorem s_no : WpS .no S = False := by unfold WpS; exact propext Iff.rfl
theorem s_stm {m : Ro β} {g : β → Sto → So} : WpS (m.stm g) S = WpE m (fun a μ => WpS (g a μ) S) (xS S) := by cases m <;> exact propext Iff.rfl
theorem xS_eq : xS S c ns vs μ = S (.exc c ns vs μ) := propext Iff.rfl
theorem s_seqm {m : So} {g : FS} : WpS (m.seq g) S = WpS m (seqK g S) := by cases m <;> exact propext Iff.rfl
theorem s_turnm {m : So} {g : FS} : WpS (m.turn g) S = WpS m (turnK g S) := by cases m <;> exact propext Iff.rfl
theorem w_fin {m : So} {Q : EV → Sto → Prop} : WpE m.fin Q X = WpS m (finK Q X) := by cases m <;> exact propext Iff.rfl
theorem seqK_nx {g : FS} : seqK g S (.nx ρ μ) = WpS (g ρ μ) S := by unfold seqK; exact propext Iff.rfl
theorem seqK_rt {g : FS} : seqK g S (.rt x μ) = S (.rt x μ) := by unfold seqK; exact propext Iff.rfl
theorem seqK_bk {g : FS} : seqK g S (.bk ρ μ) = S (.bk ρ μ) := by unfold seqK; exact propext Iff.rfl
theorem seqK_ct {g : FS} : seqK g S (.ct ρ μ) = S (.ct ρ μ) := by unfold seqK; exact propext Iff.rfl
theorem seqK_exc {g : FS} : seqK g S (.exc c ns vs μ) = S (.exc c ns vs μ) := by unfold seqK; exact propext Iff.rfl
theorem turnK_nx {g : FS} : turnK g S (.nx ρ μ) = WpS (g ρ μ) S := by unfold turnK; exact propext Iff.rfl
theorem turnK_ct {g : FS} : turnK g S (.ct ρ μ) = WpS (g ρ μ) S := by unfold turnK; exact propext Iff.rfl
theorem turnK_bk {g : FS} : turnK g S (.bk ρ μ) = S (.nx ρ μ) := by unfold turnK; exact propext Iff.rfl
theorem turnK_rt {g : FS} : turnK g S (.rt x μ) = S (.rt x μ) := by unfold turnK; exact propext Iff.rfl
theorem turnK_exc {g : FS} : turnK g S (.exc c ns vs μ) = S (.exc c ns vs μ) := by unfold turnK; exact propext Iff.rfl
theorem finK_nx {Q : EV → Sto → Prop} : finK Q X (.nx ρ μ) = Q (.v .non) μ := by unfold finK; exact propext Iff.rfl
theorem finK_rt {Q : EV → Sto → Prop} : finK Q X (.rt x μ) = Q x μ := by unfold finK; exact propext Iff.rfl
theorem finK_exc {Q : EV → Sto → Prop} : finK Q X (.exc c ns vs μ) = X c ns vs μ := by unfold finK; exact propext Iff.rfl
end
section
variable {a0 a1 a2 a3 a4 a5 a6 a7 a8 a9 a10 a11 a12 a13 a14 a15 a16 a17 a18 a19 a20 a21 a22 a23 a24 a25 : Option EV} {e x : EV} {ρ : Env} {μ : Sto} {Q : EV → Sto → Prop} {X : XQ} {k : Env → Prop} {Z : Cell → Prop} {c0 c1 c2 c3 c4 c5 c6 c7 c8 c9 c10 c11 c12 c13 : Cell}
theorem w_var0 : WpE (varM 0 (some e :: ρ) μ) Q X = Q e μ := by unfold WpE varM; exact propext Iff.rfl
theorem upd0 : updE (a0 :: ρ) 0 x k = k (some x :: ρ) := by unfold updE; exact propext Iff.rfl
theorem w_var1 : WpE (varM 1 (a0 :: some e :: ρ) μ) Q X = Q e μ := by unfold WpE varM; exact propext Iff.rfl
theorem upd1 : updE (a0 :: a1 :: ρ) 1 x k = k (a0 :: some x :: ρ) := by unfold updE; exact propext Iff.rfl
theorem w_var2 : WpE (varM 2 (a0 :: a1 :: some e :: ρ) μ) Q X = Q e μ := by unfold WpE varM; exact propext Iff.rfl
theorem upd2 : updE (a0 :: a1 :: a2 :: ρ) 2 x k = k (a0 :: a1 :: some x :: ρ) := by unfold updE; exact propext Iff.rfl
theorem w_var3 : WpE (varM 3 (a0 :: a1 :: a2 :: some e :: ρ) μ) Q X = Q e μ := by unfold WpE varM; exact propext Iff.rfl
theorem upd3 : updE (a0 :: a1 :: a2 :: a3 :: ρ) 3 x k = k (a0 :: a1 :: a2 :: some x :: ρ) := by unfold updE; exact propext Iff.rfl
theorem w_var4 : WpE (varM 4 (a0 :: a1 :: a2 :: a3 :: some e :: ρ) μ) Q X = Q e μ := by unfold WpE varM; exact propext Iff.rfl
theorem upd4 : updE (a0 :: a1 :: a2 :: a3 :: a4 :: ρ) 4 x k = k (a0 :: a1 :: a2 :: a3 :: some x :: ρ) := by unfold updE; exact propext Iff.rfl
theorem w_var5 : WpE (varM 5 (a0 :: a1 :: a2 :: a3 :: a4 :: some e :: ρ) μ) Q X = Q e μ := by unfold WpE varM; exact propext Iff.rfl
theorem upd5 : updE (a0 :: a1 :: a2 :: a3 :: a4 :: a5 :: ρ) 5 x k = k (a0 :: a1 :: a2 :: a3 :: a4 :: some x :: ρ) := by unfold updE; exact propext Iff.rfl
theorem w_var6 : WpE (varM 6 (a0 :: a1 :: a2 :: a3 :: a4 :: a5 :: some e :: ρ) μ) Q X = Q e μ := by unfold WpE varM; exact propext Iff.rfl
theorem upd6 : updE (a0 :: a1 :: a2 :: a3 :: a4 :: a5 :: a6 :: ρ) 6 x k = k (a0 :: a1 :: a2 :: a3 :: a4 :: a5 :: some x :: ρ) := by unfold updE; exact propext Iff.rfl
theorem w_var7 : WpE (varM 7 (a0 :: a1 :: a2 :: a3 :: a4 :: a5 :: a6 :: some e :: ρ) μ) Q X = Q e μ := by unfold WpE varM; exact propext Iff.rfl
theorem upd7 : updE (a0 :: a1 :: a2 :: a3 :: a4 :: a5 :: a6 :: a7 :: ρ) 7 x k = k (a0 :: a1 :: a2 :: a3 :: a4 :: a5 :: a6 :: some x :: ρ) := by unfold updE; exact propext Iff.rfl
theorem w_var8 : WpE (varM 8 (a0 :: a1 :: a2 :: a3 :: a4 :: a5 :: a6 :: a7 :: some e :: ρ) μ) Q X = Q e μ := by unfold WpE varM; exact propext Iff.rfl
theorem upd8 : updE (a0 :: a1 :: a2 :: a3 :: a4 :: a5 :: a6 :: a7 :: a8 :: ρ) 8 x k = k (a0 :: a1 :: a2 :: a3 :: a4 :: a5 :: a6 :: a7 :: some x :: ρ) := by unfold updE; exact propext Iff.rfl
theorem w_var9 : WpE (varM 9 (a0 :: a1 :: a2 :: a3 :: a4 :: a5 :: a6 :: a7 :: a8 :: some e :: ρ) μ) Q X = Q e μ := by unfold WpE varM; exact propext Iff.rfl
theorem upd9 : updE (a0 :: a1 :: a2 :: a3 :: a4 :: a5 :: a6 :: a7 :: a8 :: a9 :: ρ) 9 x k = k (a0 :: a1 :: a2 :: a3 :: a4 :: a5 :: a6 :: a7 :: a8 :: some x :: ρ) := by unfold updE; exact propext Iff.rfl
theorem w_var10 : WpE (varM 10 (a0 :: a1 :: a2 :: a3 :: a4 :: a5 :: a6 :: a7 :: a8 :: a9 :: some e :: ρ) μ) Q X = Q e μ := by unfold WpE varM; exact propext Iff.rfl
theorem upd10 : updE (a0 :: a1 :: a2 :: a3 :: a4 :: a5 :: a6 :: a7 :: a8 :: a9 :: a10 :: ρ) 10 x k = k (a0 :: a1 :: a2 :: a3 :: a4 :: a5 :: a6 :: a7 :: a8 :: a9 :: some x :: ρ) := by unfold updE; exact propext Iff.rfl
theorem w_var11 : WpE (varM 11 (a0 :: a1 :: a2 :: a3 :: a4 :: a5 :: a6 :: a7 :: a8 :: a9 :: a10 :: some e :: ρ) μ) Q X = Q e μ := by unfold WpE varM; exact propext Iff.rfl
theorem upd11 : updE (a0 :: a1 :: a2 :: a3 :: a4 :: a5 :: a6 :: a7 :: a8 :: a9 :: a10 :: a11 :: ρ) 11 x k = k (a0 :: a1 :: a2 :: a3 :: a4 :: a5 :: a6 :: a7 :: a8 :: a9 :: a10 :: some x :: ρ) := by unfold updE; exact propext Iff.rfl
theorem w_var12 : WpE (varM 12 (a0 :: a1 :: a2 :: a3 :: a4 :: a5 :: a6 :: a7 :: a8 :: a9 :: a10 :: a11 :: some e :: ρ) μ) Q X = Q e μ := by unfold WpE varM; exact propext Iff.rfl
theorem upd12 : updE (a0 :: a1 :: a2 :: a3 :: a4 :: a5 :: a6 :: a7 :: a8 :: a9 :: a10 :: a11 :: a12 :: ρ) 12 x k = k (a0 :: a1 :: a2 :: a3 :: a4 :: a5 :: a6 :: a7 :: a8 :: a9 :: a10 :: a11 :: some x :: ρ) := by unfold updE; exact propext Iff.rfl
theorem w_var13 : WpE (varM 13 (a0 :: a1 :: a2 :: a3 :: a4 :: a5 :: a6 :: a7 :: a8 :: a9 :: a10 :: a11 :: a12 :: some e :: ρ) μ) Q X = Q e μ := by unfold WpE varM; exact propext Iff.rfl
theorem upd13 : updE (a0 :: a1 :: a2 :: a3 :: a4 :: a5 :: a6 :: a7 :: a8 :: a9 :: a10 :: a11 :: a12 :: a13 :: ρ) 13 x k = k (a0 :: a1 :: a2 :: a3 :: a4 :: a5 :: a6 :: a7 :: a8 :: a9 :: a10 :: a11 :: a12 :: some x :: ρ) := by unfold updE; exact propext Iff.rfl
theorem w_var14 : WpE (varM 14 (a0 :: a1 :: a2 :: a3 :: a4 :: a5 :: a6 :: a7 :: a8 :: a9 :: a10 :: a11 :: a12 :: a13 :: some e :: ρ) μ) Q X = Q e μ := by unfold WpE varM; exact propext Iff.rfl
theorem upd14 : updE (a0 :: a1 :: a2 :: a3 :: a4 :: a5 :: a6 :: a7 :: a8 :: a9 :: a10 :: a11 :: a12 :: a13 :: a14 :: ρ) 14 x k = k (a0 :: a1 :: a2 :: a3 :: a4 :: a5 :: a6 :: a7 :: a8 :: a9 :: a10 :: a11 :: a12 :: a13 :: some x :: ρ) := by unfold updE; exact propext Iff.rfl
theorem w_var15 : WpE (varM 15 (a0 :: a1 :: a2 :: a3 :: a4 :: a5 :: a6 :: a7 :: a8 :: a9 :: a10 :: a11 :: a12 :: a13 :: a14 :: some e :: ρ) μ) Q X = Q e μ := by unfold WpE varM; exact propext Iff.rfl
theorem upd15 : updE (a0 :: a1 :: a2 :: a3 :: a4 :: a5 :: a6 :: a7 :: a8 :: a9 :: a10 :: a11 :: a12 :: a13 :: a14 :: a15 :: ρ) 15 x k = k (a0 :: a1 :: a2 :: a3 :: a4 :: a5 :: a6 :: a7 :: a8 :: a9 :: a10 :: a11 :: a12 :: a13 :: a14 :: some x :: ρ) := by unfold updE; exact propext Iff.rfl
theorem w_var16 : WpE (varM 16 (a0 :: a1 :: a2 :: a3 :: a4 :: a5 :: a6 :: a7 :: a8 :: a9 :: a10 :: a11 :: a12 :: a13 :: a14 :: a15 :: some e :: ρ) μ) Q X = Q e μ := by unfold WpE varM; exact propext Iff.rfl
theorem upd16 : updE (a0 :: a1 :: a2 :: a3 :: a4 :: a5 :: a6 :: a7 :: a8 :: a9 :: a10 :: a11 :: a12 :: a13 :: a14 :: a15 :: a16 :: ρ) 16 x k = k (a0 :: a1 :: a2 :: a3 :: a4 :: a5 :: a6 :: a7 :: a8 :: a9 :: a10 :: a11 :: a12 :: a13 :: a14 :: a15 :: some x :: ρ) := by unfold updE; exact propext Iff.rfl
theorem w_var17 : WpE (varM 17 (a0 :: a1 :: a2 :: a3 :: a4 :: a5 :: a6 :: a7 :: a8 :: a9 :: a10 :: a11 :: a12 :: a13 :: a14 :: a15 :: a16 :: some e :: ρ) μ) Q X = Q e μ := by unfold WpE varM; exact propext Iff.rfl
theorem upd17 : updE (a0 :: a1 :: a2 :: a3 :: a4 :: a5 :: a6 :: a7 :: a8 :: a9 :: a10 :: a11 :: a12 :: a13 :: a14 :: a15 :: a16 :: a17 :: ρ) 17 x k = k (a0 :: a1 :: a2 :: a3 :: a4 :: a5 :: a6 :: a7 :: a8 :: a9 :: a10 :: a11 :: a12 :: a13 :: a14 :: a15 :: a16 :: some x :: ρ) := by unfold updE; exact propext Iff.rfl
theorem w_var18 : WpE (varM 18 (a0 :: a1 :: a2 :: a3 :: a4 :: a5 :: a6 :: a7 :: a8 :: a9 :: a10 :: a11 :: a12 :: a13 :: a14 :: a15 :: a16 :: a17 :: some e :: ρ) μ) Q X = Q e μ := by unfold WpE varM; exact propext Iff.rfl
theorem upd18 : updE (a0 :: a1 :: a2 :: a3 :: a4 :: a5 :: a6 :: a7 :: a8 :: a9 :: a10 :: a11 :: a12 :: a13 :: a14 :: a15 :: a16 :: a17 :: a18 :: ρ) 18 x k = k (a0 :: a1 :: a2 :: a3 :: a4 :: a5 :: a6 :: a7 :: a8 :: a9 :: a10 :: a11 :: a12 :: a13 :: a14 :: a15 :: a16 :: a17 :: some x :: ρ) := by unfold updE; exact propext Iff.rfl
theorem w_var19 : WpE (varM 19 (a0 :: a1 :: a2 :: a3 :: a4 :: a5 :: a6 :: a7 :: a8 :: a9 :: a10 :: a11 :: a12 :: a13 :: a14 :: a15 :: a16 :: a17 :: a18 :: some e :: ρ) μ) Q X = Q e μ := by unfold WpE varM; exact propext Iff.rfl
theorem upd19 : updE (a0 :: a1 :: a2 :: a3 :: a4 :: a5 :: a6 :: a7 :: a8 :: a9 :: a10 :: a11 :: a12 :: a13 :: a14 :: a15 :: a16 :: a17 :: a18 :: a19 :: ρ) 19 x k = k (a0 :: a1 :: a2 :: a3 :: a4 :: a5 :: a6 :: a7 :: a8 :: a9 :: a10 :: a11 :: a12 :: a13 :: a14 :: a15 :: a16 :: a17 :: a18 :: some x :: ρ) := by unfold updE; exact propext Iff.rfl
theorem w_var20 : WpE (varM 20 (a0 :: a1 :: a2 :: a3 :: a4 :: a5 :: a6 :: a7 :: a8 :: a9 :: a10 :: a11 :: a12 :: a13 :: a14 :: a15 :: a16 :: a17 :: a18 :: a19 :: some e :: ρ) μ) Q X = Q e μ := by unfold WpE varM; exact propext Iff.rfl
theorem upd20 : updE (a0 :: a1 :: a2 :: a3 :: a4 :: a5 :: a6 :: a7 :: a8 :: a9 :: a10 :: a11 :: a12 :: a13 :: a14 :: a15 :: a16 :: a17 :: a18 :: a19 :: a20 :: ρ) 20 x k = k (a0 :: a1 :: a2 :: a3 :: a4 :: a5 :: a6 :: a7 :: a8 :: a9 :: a10 :: a11 :: a12 :: a13 :: a14 :: a15 :: a16 :: a17 :: a18 :: a19 :: some x :: ρ) := by unfold updE; exact propext Iff.rfl
theorem w_var21 : WpE (varM 21 (a0 :: a1 :: a2 :: a3 :: a4 :: a5 :: a6 :: a7 :: a8 :: a9 :: a10 :: a11 :: a12 :: a13 :: a14 :: a15 :: a16 :: a17 :: a18 :: a19 :: a20 :: some e :: ρ) μ) Q X = Q e μ := by unfold WpE varM; exact propext Iff.rfl
theorem upd21 : updE (a0 :: a1 :: a2 :: a3 :: a4 :: a5 :: a6 :: a7 :: a8 :: a9 :: a10 :: a11 :: a12 :: a13 :: a14 :: a15 :: a16 :: a17 :: a18 :: a19 :: a20 :: a21 :: ρ) 21 x k = k (a0 :: a1 :: a2 :: a3 :: a4 :: a5 :: a6 :: a7 :: a8 :: a9 :: a10 :: a11 :: a12 :: a13 :: a14 :: a15 :: a16 :: a17 :: a18 :: a19 :: a20 :: some x :: ρ) := by unfold updE; exact propext Iff.rfl
theorem w_var22 : WpE (varM 22 (a0 :: a1 :: a2 :: a3 :: a4 :: a5 :: a6 :: a7 :: a8 :: a9 :: a10 :: a11 :: a12 :: a13 :: a14 :: a15 :: a16 :: a17 :: a18 :: a19 :: a20 :: a21 :: some e :: ρ) μ) Q X = Q e μ := by unfold WpE varM; exact propext Iff.rfl
theorem upd22 : updE (a0 :: a1 :: a2 :: a3 :: a4 :: a5 :: a6 :: a7 :: a8 :: a9 :: a10 :: a11 :: a12 :: a13 :: a14 :: a15 :: a16 :: a17 :: a18 :: a19 :: a20 :: a21 :: a22 :: ρ) 22 x k = k (a0 :: a1 :: a2 :: a3 :: a4 :: a5 :: a6 :: a7 :: a8 :: a9 :: a10 :: a11 :: a12 :: a13 :: a14 :: a15 :: a16 :: a17 :: a18 :: a19 :: a20 :: a21 :: some x :: ρ) := by unfold updE; exact propext Iff.rfl
theorem w_var23 : WpE (varM 23 (a0 :: a1 :: a2 :: a3 :: a4 :: a5 :: a6 :: a7 :: a8 :: a9 :: a10 :: a11 :: a12 :: a13 :: a14 :: a15 :: a16 :: a17 :: a18 :: a19 :: a20 :: a21 :: a22 :: some e :: ρ) μ) Q X = Q e μ := by unfold WpE varM; exact propext Iff.rfl
theorem upd23 : updE (a0 :: a1 :: a2 :: a3 :: a4 :: a5 :: a6 :: a7 :: a8 :: a9 :: a10 :: a11 :: a12 :: a13 :: a14 :: a15 :: a16 :: a17 :: a18 :: a19 :: a20 :: a21 :: a22 :: a23 :: ρ) 23 x k = k (a0 :: a1 :: a2 :: a3 :: a4 :: a5 :: a6 :: a7 :: a8 :: a9 :: a10 :: a11 :: a12 :: a13 :: a14 :: a15 :: a16 :: a17 :: a18 :: a19 :: a20 :: a21 :: a22 :: some x :: ρ) := by unfold updE; exact propext Iff.rfl
theorem w_var24 : WpE (varM 24 (a0 :: a1 :: a2 :: a3 :: a4 :: a5 :: a6 :: a7 :: a8 :: a9 :: a10 :: a11 :: a12 :: a13 :: a14 :: a15 :: a16 :: a17 :: a18 :: a19 :: a20 :: a21 :: a22 :: a23 :: some e :: ρ) μ) Q X = Q e μ := by unfold WpE varM; exact propext Iff.rfl
theorem upd24 : updE (a0 :: a1 :: a2 :: a3 :: a4 :: a5 :: a6 :: a7 :: a8 :: a9 :: a10 :: a11 :: a12 :: a13 :: a14 :: a15 :: a16 :: a17 :: a18 :: a19 :: a20 :: a21 :: a22 :: a23 :: a24 :: ρ) 24 x k = k (a0 :: a1 :: a2 :: a3 :: a4 :: a5 :: a6 :: a7 :: a8 :: a9 :: a10 :: a11 :: a12 :: a13 :: a14 :: a15 :: a16 :: a17 :: a18 :: a19 :: a20 :: a21 :: a22 :: a23 :: some x :: ρ) := by unfold updE; exact propext Iff.rfl
theorem w_var25 : WpE (varM 25 (a0 :: a1 :: a2 :: a3 :: a4 :: a5 :: a6 :: a7 :: a8 :: a9 :: a10 :: a11 :: a12 :: a13 :: a14 :: a15 :: a16 :: a17 :: a18 :: a19 :: a20 :: a21 :: a22 :: a23 :: a24 :: some e :: ρ) μ) Q X = Q e μ := by unfold WpE varM; exact propext Iff.rfl
theorem upd25 : updE (a0 :: a1 :: a2 :: a3 :: a4 :: a5 :: a6 :: a7 :: a8 :: a9 :: a10 :: a11 :: a12 :: a13 :: a14 :: a15 :: a16 :: a17 :: a18 :: a19 :: a20 :: a21 :: a22 :: a23 :: a24 :: a25 :: ρ) 25 x k = k (a0 :: a1 :: a2 :: a3 :: a4 :: a5 :: a6 :: a7 :: a8 :: a9 :: a10 :: a11 :: a12 :: a13 :: a14 :: a15 :: a16 :: a17 :: a18 :: a19 :: a20 :: a21 :: a22 :: a23 :: a24 :: some x :: ρ) := by unfold updE; exact propext Iff.rfl
end
theorem at0 {α : Type} {p0 : α} {r : List α} : atI (p0 :: r) 0 = some p0 := by
  unfold atI ixN
  rw [if_pos (by decide), if_pos (by simp only [List.length_cons]; omega)]
  exact (Eq.trans rfl rfl)
theorem ixN0 {n : Nat} : ixN (n + 1) 0 = some 0 := by
  unfold ixN
  rw [if_pos (by decide), if_pos (by omega)]
  exact (Eq.trans rfl rfl)
theorem at1 {α : Type} {p0 p1 : α} {r : List α} : atI (p0 :: p1 :: r) 1 = some p1 := by
  unfold atI ixN
  rw [if_pos (by decide), if_pos (by simp only [List.length_cons]; omega)]
  exact (Eq.trans rfl rfl)
theorem ixN1 {n : Nat} : ixN (n + 2) 1 = some 1 := by
  unfold ixN
  rw [if_pos (by decide), if_pos (by omega)]
  exact (Eq.trans rfl rfl)
theorem at2 {α : Type} {p0 p1 p2 : α} {r : List α} : atI (p0 :: p1 :: p2 :: r) 2 = some p2 := by
  unfold atI ixN
  rw [if_pos (by decide), if_pos (by simp only [List.length_cons]; omega)]
  exact (Eq.trans rfl rfl)
theorem ixN2 {n : Nat} : ixN (n + 3) 2 = some 2 := by
  unfold ixN
  rw [if_pos (by decide), if_pos (by omega)]
  exact (Eq.trans rfl rfl)
theorem at3 {α : Type} {p0 p1 p2 p3 : α} {r : List α} : atI (p0 :: p1 :: p2 :: p3 :: r) 3 = some p3 := by
  unfold atI ixN
  rw [if_pos (by decide), if_pos (by simp only [List.length_cons]; omega)]
  exact (Eq.trans rfl rfl)
theorem ixN3 {n : Nat} : ixN (n + 4) 3 = some 3 := by
  unfold ixN
  rw [if_pos (by decide), if_pos (by omega)]
  exact (Eq.trans rfl rfl)
theorem at4 {α : Type} {p0 p1 p2 p3 p4 : α} {r : List α} : atI (p0 :: p1 :: p2 :: p3 :: p4 :: r) 4 = some p4 := by
  unfold atI ixN
  rw [if_pos (by decide), if_pos (by simp only [List.length_cons]; omega)]
  exact (Eq.trans rfl rfl)
theorem ixN4 {n : Nat} : ixN (n + 5) 4 = some 4 := by
  unfold ixN
  rw [if_pos (by decide), if_pos (by omega)]
  exact (Eq.trans rfl rfl)
theorem at5 {α : Type} {p0 p1 p2 p3 p4 p5 : α} {r : List α} : atI (p0 :: p1 :: p2 :: p3 :: p4 :: p5 :: r) 5 = some p5 := by
  unfold atI ixN
  rw [if_pos (by decide), if_pos (by simp only [List.length_cons]; omega)]
  exact (Eq.trans rfl rfl)
theorem ixN5 {n : Nat} : ixN (n + 6) 5 = some 5 := by
  unfold ixN
  rw [if_pos (by decide), if_pos (by omega)]
  exact (Eq.trans rfl rfl)
theorem at6 {α : Type} {p0 p1 p2 p3 p4 p5 p6 : α} {r : List α} : atI (p0 :: p1 :: p2 :: p3 :: p4 :: p5 :: p6 :: r) 6 = some p6 := by
  unfold atI ixN
  rw [if_pos (by decide), if_pos (by simp only [List.length_cons]; omega)]
  exact (Eq.trans rfl rfl)
theorem ixN6 {n : Nat} : ixN (n + 7) 6 = some 6 := by
  unfold ixN
  rw [if_pos (by decide), if_pos (by omega)]
  exact (Eq.trans rfl rfl)
theorem at7 {α : Type} {p0 p1 p2 p3 p4 p5 p6 p7 : α} {r : List α} : atI (p0 :: p1 :: p2 :: p3 :: p4 :: p5 :: p6 :: p7 :: r) 7 = some p7 := by
  unfold atI ixN
  rw [if_pos (by decide), if_pos (by simp only [List.length_cons]; omega)]
  exact (Eq.trans rfl rfl)
theorem ixN7 {n : Nat} : ixN (n + 8) 7 = some 7 := by
  unfold ixN
  rw [if_pos (by decide), if_pos (by omega)]
  exact (Eq.trans rfl rfl)
theorem at8 {α : Type} {p0 p1 p2 p3 p4 p5 p6 p7 p8 : α} {r : List α} : atI (p0 :: p1 :: p2 :: p3 :: p4 :: p5 :: p6 :: p7 :: p8 :: r) 8 = some p8 := by
  unfold atI ixN
  rw [if_pos (by decide), if_pos (by simp only [List.length_cons]; omega)]
  exact (Eq.trans rfl rfl)
theorem ixN8 {n : Nat} : ixN (n + 9) 8 = some 8 := by
  unfold ixN
  rw [if_pos (by decide), if_pos (by omega)]
  exact (Eq.trans rfl rfl)
theorem at9 {α : Type} {p0 p1 p2 p3 p4 p5 p6 p7 p8 p9 : α} {r : List α} : atI (p0 :: p1 :: p2 :: p3 :: p4 :: p5 :: p6 :: p7 :: p8 :: p9 :: r) 9 = some p9 := by
  unfold atI ixN
  rw [if_pos (by decide), if_pos (by simp only [List.length_cons]; omega)]
  exact (Eq.trans rfl rfl)
theorem ixN9 {n : Nat} : ixN (n + 10) 9 = some 9 := by
  unfold ixN
  rw [if_pos (by decide), if_pos (by omega)]
  exact (Eq.trans rfl rfl)
theorem at10 {α : Type} {p0 p1 p2 p3 p4 p5 p6 p7 p8 p9 p10 : α} {r : List α} : atI (p0 :: p1 :: p2 :: p3 :: p4 :: p5 :: p6 :: p7 :: p8 :: p9 :: p10 :: r) 10 = some p10 := by
  unfold atI ixN
  rw [if_pos (by decide), if_pos (by simp only [List.length_cons]; omega)]
  exact (Eq.trans rfl rfl)
theorem ixN10 {n : Nat} : ixN (n + 11) 10 = some 10 := by
  unfold ixN
  rw [if_pos (by decide), if_pos (by omega)]
  exact (Eq.trans rfl rfl)
theorem at11 {α : Type} {p0 p1 p2 p3 p4 p5 p6 p7 p8 p9 p10 p11 : α} {r : List α} : atI (p0 :: p1 :: p2 :: p3 :: p4 :: p5 :: p6 :: p7 :: p8 :: p9 :: p10 :: p11 :: r) 11 = some p11 := by
  unfold atI ixN
  rw [if_pos (by decide), if_pos (by simp only [List.length_cons]; omega)]
  exact (Eq.trans rfl rfl)
theorem ixN11 {n : Nat} : ixN (n + 12) 11 = some 11 := by
  unfold ixN
  rw [if_pos (by decide), if_pos (by omega)]
  exact (Eq.trans rfl rfl)
theorem at12 {α : Type} {p0 p1 p2 p3 p4 p5 p6 p7 p8 p9 p10 p11 p12 : α} {r : List α} : atI (p0 :: p1 :: p2 :: p3 :: p4 :: p5 :: p6 :: p7 :: p8 :: p9 :: p10 :: p11 :: p12 :: r) 12 = some p12 := by
  unfold atI ixN
  rw [if_pos (by decide), if_pos (by simp only [List.length_cons]; omega)]
  exact (Eq.trans rfl rfl)
theorem ixN12 {n : Nat} : ixN (n + 13) 12 = some 12 := by
  unfold ixN
  rw [if_pos (by decide), if_pos (by omega)]
  exact (Eq.trans rfl rfl)
section
variable {o o' : FO} {fa fb fc fe fo : FE} {gs gr : FA} {ft fu : FT} {f g : FS} {G : FG} {ρ : Env} {μ : Sto} {Q : EV → Sto → Prop} {L : List EV → Sto → Prop} {B : Bool → Sto → Prop} {X : XQ} {S : So → Prop} {i j l n : Nat} {p : PV} {x y z : EV} {xs : List EV} {ps qs : List PV} {b : Bool}
theorem w_cM : WpE (cM p ρ μ) Q X = Q (.v p) μ := by unfold WpE cM; exact propext Iff.rfl
theorem w_opM : WpE (opM o fa fb ρ μ) Q X = WpE (fa ρ μ) (fun x μ1 => WpE (fb ρ μ1) (fun y μ2 => WpE (o x y μ2) Q X) X) X := by
  unfold opM
  repeat' first
    | rw [w_bind]
    | rw [s_stm]
    | rw [w_ok]
    | rw [s_nx]
    | rw [s_rt]
    | rw [w_valsM]
    | rfl
    | refine WpE_ext fun _ _ => ?_
theorem w_unM {o : EV → Sto → Ro EV} : WpE (unM o fa ρ μ) Q X = WpE (fa ρ μ) (fun x μ1 => WpE (o x μ1) Q X) X := by
  unfold unM
  simp only [w_bind]
theorem w_blE : WpE (blE (.v (.bl b)) μ) B X = B b μ := by unfold WpE blE; exact propext Iff.rfl
theorem w_guard {α : Type} {c : Prop} [Decidable c] {a : α} {μ : Sto} {Q : α → Sto → Prop} : WpE (if c then .ok a μ else .no) Q X = (c ∧ Q a μ) := by
  by_cases h : c
  · rw [if_pos h, w_ok]; exact propext ⟨fun q => ⟨h, q⟩, fun q => q.2⟩
  · rw [if_neg h, w_no]; exact propext ⟨fun q => q.elim, fun q => (h q.1).elim⟩
theorem w_ite {α : Type} {c : Prop} [Decidable c] {m m' : Ro α} {Q : α → Sto → Prop} : WpE (if c then m else m') Q X = if c then WpE m Q X else WpE m' Q X := by split <;> rfl
theorem w_andVM : WpE (andVM fa fb ρ μ) Q X = WpE (fa ρ μ) (fun x μ1 => WpE (blE x μ1) (fun c μ2 => WpE (if c then fb ρ μ2 else .ok (.v (.bl false)) μ2) Q X) X) X := by
  unfold andVM
  repeat' first
    | rw [w_bind]
    | rw [s_stm]
    | rw [w_ok]
    | rw [s_nx]
    | rw [s_rt]
    | rw [w_valsM]
    | rfl
    | refine WpE_ext fun _ _ => ?_
theorem w_orVM : WpE (orVM fa fb ρ μ) Q X = WpE (fa ρ μ) (fun x μ1 => WpE (blE x μ1) (fun c μ2 => WpE (if c then .ok (.v (.bl true)) μ2 else fb ρ μ2) Q X) X) X := by
  unfold orVM
  repeat' first
    | rw [w_bind]
    | rw [s_stm]
    | rw [w_ok]
    | rw [s_nx]
    | rw [s_rt]
    | rw [w_valsM]
    | rfl
    | refine WpE_ext fun _ _ => ?_
theorem w_notVM : WpE (notVM fa ρ μ) Q X = WpE (fa ρ μ) (fun x μ1 => WpE (blE x μ1) (fun c μ2 => Q (.v (.bl (!c))) μ2) X) X := by
  unfold notVM
  repeat' first
    | rw [w_bind]
    | rw [s_stm]
    | rw [w_ok]
    | rw [s_nx]
    | rw [s_rt]
    | rw [w_valsM]
    | rfl
    | refine WpE_ext fun _ _ => ?_
theorem w_ifM : WpE (ifM ft fa fb ρ μ) Q X = WpE (ft ρ μ) (fun c μ1 => WpE (if c then fa ρ μ1 else fb ρ μ1) Q X) X := by
  unfold ifM
  repeat' first
    | rw [w_bind]
    | rw [s_stm]
    | rw [w_ok]
    | rw [s_nx]
    | rw [s_rt]
    | rw [w_valsM]
    | rfl
    | refine WpE_ext fun _ _ => ?_
theorem w_chainM : WpE (chainM o o' fa fb fc ρ μ) Q X = WpE (fa ρ μ) (fun x μ1 => WpE (fb ρ μ1) (fun y μ2 => WpE (o x y μ2) (fun z μ3 => WpE (blE z μ3) (fun c μ4 => WpE (if c then (fc ρ μ4).bind fun u μ5 => o' y u μ5 else .ok (.v (.bl false)) μ4) Q X) X) X) X) X := by
  unfold chainM
  repeat' first
    | rw [w_bind]
    | rw [s_stm]
    | rw [w_ok]
    | rw [s_nx]
    | rw [s_rt]
    | rw [w_valsM]
    | rfl
    | refine WpE_ext fun _ _ => ?_
theorem w_nilM : WpE (nilM ρ μ) L X = L [] μ := by unfold WpE nilM; exact propext Iff.rfl
theorem w_consM : WpE (consM fa gr ρ μ) L X = WpE (fa ρ μ) (fun x μ1 => WpE (gr ρ μ1) (fun xs μ2 => L (x :: xs) μ2) X) X := by
  unfold consM
  repeat' first
    | rw [w_bind]
    | rw [s_stm]
    | rw [w_ok]
    | rw [s_nx]
    | rw [s_rt]
    | rw [w_valsM]
    | rfl
    | refine WpE_ext fun _ _ => ?_
/-- all are values -/
def valsK (xs : List EV) (k : List PV → Prop) [Tag k] : Prop := match pvs xs with
  | some ps => ps.length ≤ sizeLine ∧ k ps
  | none => False
theorem w_valsM {k : List PV → Ro EV} : WpE (valsM xs μ k) Q X = valsK xs fun ps => WpE (k ps) Q X := by
  unfold valsM valsK
  cases pvs xs with
  | none => exact w_no
  | some ps =>
    show WpE (if _ then _ else _) Q X = (ps.length ≤ sizeLine ∧ WpE (k ps) Q X)
    rw [w_ite]
    by_cases h : ps.length ≤ sizeLine
    · rw [if_pos h]; exact propext ⟨fun q => ⟨h, q⟩, fun q => q.2⟩
    · rw [if_neg h]; exact propext ⟨fun q => (w_no ▸ q : False).elim, fun q => (h q.1).elim⟩
/-- the values so far -/
def valsJ (acc : List PV) (xs : List EV) (k : List PV → Prop) [Tag k] : Prop := valsK xs fun ps => (acc ++ ps).length ≤ sizeLine ∧ k (acc ++ ps)
theorem natAbs10 : Int.natAbs 10 = 10 := (Eq.trans rfl rfl)
theorem sizeL : sizeLine = 16777216 := (Eq.trans rfl rfl)
def smallN (n : Nat) : Prop := n ≤ sizeLine
theorem smallN_le {n : Nat} (h : n ≤ 1000000) : smallN n := by unfold smallN sizeLine; omega
theorem small_lit : smallN n = (n ≤ sizeLine) := propext Iff.rfl
theorem vals0 {k : List PV → Prop} : valsK [] k = k [] := by
  unfold valsK; exact propext ⟨fun q => q.2, fun q => ⟨by show 0 ≤ 16777216; omega, q⟩⟩
theorem vals1 {p0 : PV} {k : List PV → Prop} : valsK [.v p0] k = k [p0] := by
  unfold valsK; exact propext ⟨fun q => q.2, fun q => ⟨by show 1 ≤ 16777216; omega, q⟩⟩
theorem vals2 {p0 p1 : PV} {k : List PV → Prop} : valsK [.v p0, .v p1] k = k [p0, p1] := by
  unfold valsK; exact propext ⟨fun q => q.2, fun q => ⟨by show 2 ≤ 16777216; omega, q⟩⟩
theorem vals3 {p0 p1 p2 : PV} {k : List PV → Prop} : valsK [.v p0, .v p1, .v p2] k = k [p0, p1, p2] := by
  unfold valsK; exact propext ⟨fun q => q.2, fun q => ⟨by show 3 ≤ 16777216; omega, q⟩⟩
theorem vals4 {p0 p1 p2 p3 : PV} {k : List PV → Prop} : valsK [.v p0, .v p1, .v p2, .v p3] k = k [p0, p1, p2, p3] := by
  unfold valsK; exact propext ⟨fun q => q.2, fun q => ⟨by show 4 ≤ 16777216; omega, q⟩⟩
theorem vals5 {p0 p1 p2 p3 p4 : PV} {k : List PV → Prop} : valsK [.v p0, .v p1, .v p2, .v p3, .v p4] k = k [p0, p1, p2, p3, p4] := by
  unfold valsK; exact propext ⟨fun q => q.2, fun q => ⟨by show 5 ≤ 16777216; omega, q⟩⟩
theorem vals6 {p0 p1 p2 p3 p4 p5 : PV} {k : List PV → Prop} : valsK [.v p0, .v p1, .v p2, .v p3, .v p4, .v p5] k = k [p0, p1, p2, p3, p4, p5] := by
  unfold valsK; exact propext ⟨fun q => q.2, fun q => ⟨by show 6 ≤ 16777216; omega, q⟩⟩
theorem vals7 {p0 p1 p2 p3 p4 p5 p6 : PV} {k : List PV → Prop} : valsK [.v p0, .v p1, .v p2, .v p3, .v p4, .v p5, .v p6] k = k [p0, p1, p2, p3, p4, p5, p6] := by
  unfold valsK; exact propext ⟨fun q => q.2, fun q => ⟨by show 7 ≤ 16777216; omega, q⟩⟩
theorem vals8 {p0 p1 p2 p3 p4 p5 p6 p7 : PV} {k : List PV → Prop} : valsK [.v p0, .v p1, .v p2, .v p3, .v p4, .v p5, .v p6, .v p7] k = k [p0, p1, p2, p3, p4, p5, p6, p7] := by
  unfold valsK; exact propext ⟨fun q => q.2, fun q => ⟨by show 8 ≤ 16777216; omega, q⟩⟩
theorem vals9 {p0 p1 p2 p3 p4 p5 p6 p7 p8 : PV} {k : List PV → Prop} : valsK [.v p0, .v p1, .v p2, .v p3, .v p4, .v p5, .v p6, .v p7, .v p8] k = k [p0, p1, p2, p3, p4, p5, p6, p7, p8] := by
  unfold valsK; exact propext ⟨fun q => q.2, fun q => ⟨by show 9 ≤ 16777216; omega, q⟩⟩
theorem vals10 {p0 p1 p2 p3 p4 p5 p6 p7 p8 p9 : PV} {k : List PV → Prop} : valsK [.v p0, .v p1, .v p2, .v p3, .v p4, .v p5, .v p6, .v p7, .v p8, .v p9] k = k [p0, p1, p2, p3, p4, p5, p6, p7, p8, p9] := by
  unfold valsK; exact propext ⟨fun q => q.2, fun q => ⟨by show 10 ≤ 16777216; omega, q⟩⟩
theorem vals11 {p0 p1 p2 p3 p4 p5 p6 p7 p8 p9 p10 : PV} {k : List PV → Prop} : valsK [.v p0, .v p1, .v p2, .v p3, .v p4, .v p5, .v p6, .v p7, .v p8, .v p9, .v p10] k = k [p0, p1, p2, p3, p4, p5, p6, p7, p8, p9, p10] := by
  unfold valsK; exact propext ⟨fun q => q.2, fun q => ⟨by show 11 ≤ 16777216; omega, q⟩⟩
theorem vals12 {p0 p1 p2 p3 p4 p5 p6 p7 p8 p9 p10 p11 : PV} {k : List PV → Prop} : valsK [.v p0, .v p1, .v p2, .v p3, .v p4, .v p5, .v p6, .v p7, .v p8, .v p9, .v p10, .v p11] k = k [p0, p1, p2, p3, p4, p5, p6, p7, p8, p9, p10, p11] := by
  unfold valsK; exact propext ⟨fun q => q.2, fun q => ⟨by show 12 ≤ 16777216; omega, q⟩⟩
theorem w_tupM : WpE (tupM gs ρ μ) Q X = WpE (gs ρ μ) (fun xs μ1 => valsK xs fun ps => Q (.v (.tup ps)) μ1) X := by
  unfold tupM
  repeat' first
    | rw [w_bind]
    | rw [s_stm]
    | rw [w_ok]
    | rw [s_nx]
    | rw [s_rt]
    | rw [w_valsM]
    | rfl
    | refine WpE_ext fun _ _ => ?_
theorem w_lstM : WpE (lstM gs ρ μ) Q X = WpE (gs ρ μ) (fun xs μ1 => valsK xs fun ps => Q (.v (.lst ps)) μ1) X := by
  unfold lstM
  repeat' first
    | rw [w_bind]
    | rw [s_stm]
    | rw [w_ok]
    | rw [s_nx]
    | rw [s_rt]
    | rw [w_valsM]
    | rfl
    | refine WpE_ext fun _ _ => ?_
theorem w_lstC : WpE (lstC gs ρ μ) Q X = WpE (gs ρ μ) (fun xs μ1 => valsK xs fun ps => evK μ1.length fun n => evK (μ1 ++ [.lst ps]) fun μ2 => Q (.c n) μ2) X := by
  unfold lstC
  repeat' first
    | rw [w_bind]
    | rw [s_stm]
    | rw [w_ok]
    | rw [s_nx]
    | rw [s_rt]
    | rw [w_valsM]
    | rfl
    | refine WpE_ext fun _ _ => ?_
theorem w_cbM {o : List EV → Sto → Ro EV} : WpE (cbM o gs ρ μ) Q X = WpE (gs ρ μ) (fun xs μ1 => WpE (o xs μ1) Q X) X := by unfold cbM; simp only [w_bind]
theorem w_tstM : WpE (tstM fa ρ μ) B X = WpE (fa ρ μ) (fun x μ1 => WpE (blE x μ1) B X) X := by
  unfold tstM
  repeat' first
    | rw [w_bind]
    | rw [s_stm]
    | rw [w_ok]
    | rw [s_nx]
    | rw [s_rt]
    | rw [w_valsM]
    | rfl
    | refine WpE_ext fun _ _ => ?_
theorem w_tandM : WpE (tandM ft fu ρ μ) B X = WpE (ft ρ μ) (fun c μ1 => WpE (if c then fu ρ μ1 else .ok false μ1) B X) X := by
  unfold tandM
  repeat' first
    | rw [w_bind]
    | rw [s_stm]
    | rw [w_ok]
    | rw [s_nx]
    | rw [s_rt]
    | rw [w_valsM]
    | rfl
    | refine WpE_ext fun _ _ => ?_
theorem w_torM : WpE (torM ft fu ρ μ) B X = WpE (ft ρ μ) (fun c μ1 => WpE (if c then .ok true μ1 else fu ρ μ1) B X) X := by
  unfold torM
  repeat' first
    | rw [w_bind]
    | rw [s_stm]
    | rw [w_ok]
    | rw [s_nx]
    | rw [s_rt]
    | rw [w_valsM]
    | rfl
    | refine WpE_ext fun _ _ => ?_
theorem w_tnotM : WpE (tnotM ft ρ μ) B X = WpE (ft ρ μ) (fun c μ1 => B (!c) μ1) X := by
  unfold tnotM
  repeat' first
    | rw [w_bind]
    | rw [s_stm]
    | rw [w_ok]
    | rw [s_nx]
    | rw [s_rt]
    | rw [w_valsM]
    | rfl
    | refine WpE_ext fun _ _ => ?_
theorem w_tyesM : WpE (tyesM ρ μ) B X = B true μ := by unfold WpE tyesM; exact propext Iff.rfl
theorem s_nxS : WpS (nxS ρ μ) S = S (.nx ρ μ) := by unfold WpS nxS; exact propext Iff.rfl
theorem s_bkS : WpS (bkS ρ μ) S = S (.bk ρ μ) := by unfold WpS bkS; exact propext Iff.rfl
theorem s_ctS : WpS (ctS ρ μ) S = S (.ct ρ μ) := by unfold WpS ctS; exact propext Iff.rfl
theorem s_retN : WpS (retN ρ μ) S = S (.rt (.v .non) μ) := by unfold WpS retN; exact propext Iff.rfl
theorem s_noS : WpS (noS ρ μ) S = False := by unfold WpS noS; exact propext Iff.rfl
theorem s_seqS : WpS (seqS f g ρ μ) S = WpS (f ρ μ) (seqK g S) := by unfold seqS; exact s_seqm
theorem s_retS : WpS (retS fe ρ μ) S = WpE (fe ρ μ) (fun x μ1 => S (.rt x μ1)) (xS S) := by
  unfold retS
  repeat' first
    | rw [w_bind]
    | rw [s_stm]
    | rw [w_ok]
    | rw [s_nx]
    | rw [s_rt]
    | rw [w_valsM]
    | rfl
    | refine WpE_ext fun _ _ => ?_
theorem s_dropS : WpS (dropS fe ρ μ) S = WpE (fe ρ μ) (fun _ μ1 => S (.nx ρ μ1)) (xS S) := by
  unfold dropS
  repeat' first
    | rw [w_bind]
    | rw [s_stm]
    | rw [w_ok]
    | rw [s_nx]
    | rw [s_rt]
    | rw [w_valsM]
    | rfl
    | refine WpE_ext fun _ _ => ?_
theorem s_ifS : WpS (ifS ft f g ρ μ) S = WpE (ft ρ μ) (fun c μ1 => WpS (if c then f ρ μ1 else g ρ μ1) S) (xS S) := by
  unfold ifS
  repeat' first
    | rw [w_bind]
    | rw [s_stm]
    | rw [w_ok]
    | rw [s_nx]
    | rw [s_rt]
    | rw [w_valsM]
    | rfl
    | refine WpE_ext fun _ _ => ?_
theorem s_ite {c : Prop} [Decidable c] {m m' : So} : WpS (if c then m else m') S = if c then WpS m S else WpS m' S := by split <;> rfl
theorem s_setS : WpS (setS i fe ρ μ) S = WpE (fe ρ μ) (fun x μ1 => updE ρ i x fun ρ' => S (.nx ρ' μ1)) (xS S) := by
  unfold setS updE
  repeat' first
    | rw [w_bind]
    | rw [s_stm]
    | rw [w_ok]
    | rw [s_nx]
    | rw [s_rt]
    | rw [w_valsM]
    | rfl
    | refine WpE_ext fun _ _ => ?_
theorem s_asgS : WpS (asgS fe G ρ μ) S = WpE (fe ρ μ) (fun x μ1 => WpE (G x ρ μ1) (fun ρ' μ2 => S (.nx ρ' μ2)) (xS S)) (xS S) := by
  unfold asgS
  repeat' first
    | rw [w_bind]
    | rw [s_stm]
    | rw [w_ok]
    | rw [s_nx]
    | rw [s_rt]
    | rw [w_valsM]
    | rfl
    | refine WpE_ext fun _ _ => ?_
section
variable {R : Env → Sto → Prop} {Gs : List EV → Env → Sto → Ro Env}
theorem w_nameG : WpE (nameG i x ρ μ) R X = updE ρ i x fun ρ' => R ρ' μ := by unfold WpE nameG updE; exact propext Iff.rfl
theorem w_nilG : WpE (nilG [] ρ μ) R X = R ρ μ := by unfold WpE nilG; exact propext Iff.rfl
theorem w_consG : WpE (consG G Gs (x :: xs) ρ μ) R X = WpE (G x ρ μ) (fun ρ1 μ1 => WpE (Gs xs ρ1 μ1) R X) X := by unfold consG; exact w_bind
theorem w_tupG (h : ps.length = n) : WpE (tupG n Gs (.v (.tup ps)) ρ μ) R X = WpE (Gs (ps.map EV.v) ρ μ) R X := by unfold tupG; simp only [h, if_true]
theorem w_tupG1 {p0 : PV} : WpE (tupG 1 Gs (.v (.tup [p0])) ρ μ) R X = WpE (Gs [.v p0] ρ μ) R X := by unfold tupG; exact propext Iff.rfl
theorem w_tupG2 {p0 p1 : PV} : WpE (tupG 2 Gs (.v (.tup [p0, p1])) ρ μ) R X = WpE (Gs [.v p0, .v p1] ρ μ) R X := by unfold tupG; exact propext Iff.rfl
theorem w_tupG3 {p0 p1 p2 : PV} : WpE (tupG 3 Gs (.v (.tup [p0, p1, p2])) ρ μ) R X = WpE (Gs [.v p0, .v p1, .v p2] ρ μ) R X := by unfold tupG; exact propext Iff.rfl
theorem w_tupG4 {p0 p1 p2 p3 : PV} : WpE (tupG 4 Gs (.v (.tup [p0, p1, p2, p3])) ρ μ) R X = WpE (Gs [.v p0, .v p1, .v p2, .v p3] ρ μ) R X := by unfold tupG; exact propext Iff.rfl
end
def parK (i j : Nat) (ρ : Env) (xs : List EV) (k : Env → Prop) [Tag k] : Prop := match xs with
  | [a, b] => k ((ρ.set i (some a)).set j (some b))
  | _ => False
theorem parK_eq {i j : Nat} {ρ : Env} {a b : EV} {k : Env → Prop} : parK i j ρ [a, b] k = updE ρ i a fun ρ' => updE ρ' j b k := by unfold parK updE; exact propext Iff.rfl
def par3K (i j l : Nat) (ρ : Env) (xs : List EV) (k : Env → Prop) [Tag k] : Prop := match xs with
  | [a, b, c] => k (((ρ.set i (some a)).set j (some b)).set l (some c))
  | _ => False
theorem par3K_eq {i j l : Nat} {ρ : Env} {a b c : EV} {k : Env → Prop} : par3K i j l ρ [a, b, c] k = updE ρ i a fun ρ' => updE ρ' j b fun ρ' => updE ρ' l c k := by unfold par3K updE; exact propext Iff.rfl
theorem s_parS : WpS (parS i j gs ρ μ) S = WpE (gs ρ μ) (fun xs μ1 => parK i j ρ xs fun ρ' => S (.nx ρ' μ1)) (xS S) := by
  unfold parS parK
  rw [s_stm]
  refine WpE_ext fun xs μ1 => ?_
  split <;> first | rfl | (split <;> first | rfl | simp_all)
theorem s_par3S : WpS (par3S i j l gs ρ μ) S = WpE (gs ρ μ) (fun xs μ1 => par3K i j l ρ xs fun ρ' => S (.nx ρ' μ1)) (xS S) := by
  unfold par3S par3K
  rw [s_stm]
  refine WpE_ext fun xs μ1 => ?_
  split <;> first | rfl | (split <;> first | rfl | simp_all)
def augK (h : Int → Int → Int) (a : Int) (y : EV) (k : EV → Prop) [Tag k] : Prop := match y with
  | .v (.int b) => k (.v (.int (h a b)))
  | _ => False
theorem augK_eq {h : Int → Int → Int} {a b : Int} {k : EV → Prop} : augK h a (.v (.int b)) k = k (.v (.int (h a b))) := by unfold augK; exact propext Iff.rfl
theorem s_augI {h : Int → Int → Int} {a : Int} (e : ρ[i]? = some (some (.v (.int a)))) : WpS (augS i h fe ρ μ) S = WpE (fe ρ μ) (fun y μ1 => augK h a y fun z => updE ρ i z fun ρ' => S (.nx ρ' μ1)) (xS S) := by
  unfold augS
  rw [e]
  rw [s_stm]
  refine WpE_ext fun y μ1 => ?_
  unfold augK
  rcases y with p | k
  · cases p <;> first | exact s_nx | exact s_no
  · exact s_no
theorem s_aug0 {h : Int → Int → Int} {a : Int} : WpS (augS 0 h fe (some (.v (.int a)) :: ρ) μ) S = WpE (fe (some (.v (.int a)) :: ρ) μ) (fun y μ1 => augK h a y fun z => S (.nx (some z :: ρ) μ1)) (xS S) := by
  rw [s_augI rfl]
  refine WpE_ext fun y μ1 => ?_
  rcases y with p | k
  · cases p <;> first | rfl | exact upd0
  · rfl
theorem s_aug1 {a0 : Option EV} {h : Int → Int → Int} {a : Int} : WpS (augS 1 h fe (a0 :: some (.v (.int a)) :: ρ) μ) S = WpE (fe (a0 :: some (.v (.int a)) :: ρ) μ) (fun y μ1 => augK h a y fun z => S (.nx (a0 :: some z :: ρ) μ1)) (xS S) := by
  rw [s_augI rfl]
  refine WpE_ext fun y μ1 => ?_
  rcases y with p | k
  · cases p <;> first | rfl | exact upd1
  · rfl
theorem s_aug2 {a0 a1 : Option EV} {h : Int → Int → Int} {a : Int} : WpS (augS 2 h fe (a0 :: a1 :: some (.v (.int a)) :: ρ) μ) S = WpE (fe (a0 :: a1 :: some (.v (.int a)) :: ρ) μ) (fun y μ1 => augK h a y fun z => S (.nx (a0 :: a1 :: some z :: ρ) μ1)) (xS S) := by
  rw [s_augI rfl]
  refine WpE_ext fun y μ1 => ?_
  rcases y with p | k
  · cases p <;> first | rfl | exact upd2
  · rfl
theorem s_aug3 {a0 a1 a2 : Option EV} {h : Int → Int → Int} {a : Int} : WpS (augS 3 h fe (a0 :: a1 :: a2 :: some (.v (.int a)) :: ρ) μ) S = WpE (fe (a0 :: a1 :: a2 :: some (.v (.int a)) :: ρ) μ) (fun y μ1 => augK h a y fun z => S (.nx (a0 :: a1 :: a2 :: some z :: ρ) μ1)) (xS S) := by
  rw [s_augI rfl]
  refine WpE_ext fun y μ1 => ?_
  rcases y with p | k
  · cases p <;> first | rfl | exact upd3
  · rfl
theorem s_aug4 {a0 a1 a2 a3 : Option EV} {h : Int → Int → Int} {a : Int} : WpS (augS 4 h fe (a0 :: a1 :: a2 :: a3 :: some (.v (.int a)) :: ρ) μ) S = WpE (fe (a0 :: a1 :: a2 :: a3 :: some (.v (.int a)) :: ρ) μ) (fun y μ1 => augK h a y fun z => S (.nx (a0 :: a1 :: a2 :: a3 :: some z :: ρ) μ1)) (xS S) := by
  rw [s_augI rfl]
  refine WpE_ext fun y μ1 => ?_
  rcases y with p | k
  · cases p <;> first | rfl | exact upd4
  · rfl
theorem s_aug5 {a0 a1 a2 a3 a4 : Option EV} {h : Int → Int → Int} {a : Int} : WpS (augS 5 h fe (a0 :: a1 :: a2 :: a3 :: a4 :: some (.v (.int a)) :: ρ) μ) S = WpE (fe (a0 :: a1 :: a2 :: a3 :: a4 :: some (.v (.int a)) :: ρ) μ) (fun y μ1 => augK h a y fun z => S (.nx (a0 :: a1 :: a2 :: a3 :: a4 :: some z :: ρ) μ1)) (xS S) := by
  rw [s_augI rfl]
  refine WpE_ext fun y μ1 => ?_
  rcases y with p | k
  · cases p <;> first | rfl | exact upd5
  · rfl
theorem s_aug6 {a0 a1 a2 a3 a4 a5 : Option EV} {h : Int → Int → Int} {a : Int} : WpS (augS 6 h fe (a0 :: a1 :: a2 :: a3 :: a4 :: a5 :: some (.v (.int a)) :: ρ) μ) S = WpE (fe (a0 :: a1 :: a2 :: a3 :: a4 :: a5 :: some (.v (.int a)) :: ρ) μ) (fun y μ1 => augK h a y fun z => S (.nx (a0 :: a1 :: a2 :: a3 :: a4 :: a5 :: some z :: ρ) μ1)) (xS S) := by
  rw [s_augI rfl]
  refine WpE_ext fun y μ1 => ?_
  rcases y with p | k
  · cases p <;> first | rfl | exact upd6
  · rfl
theorem s_aug7 {a0 a1 a2 a3 a4 a5 a6 : Option EV} {h : Int → Int → Int} {a : Int} : WpS (augS 7 h fe (a0 :: a1 :: a2 :: a3 :: a4 :: a5 :: a6 :: some (.v (.int a)) :: ρ) μ) S = WpE (fe (a0 :: a1 :: a2 :: a3 :: a4 :: a5 :: a6 :: some (.v (.int a)) :: ρ) μ) (fun y μ1 => augK h a y fun z => S (.nx (a0 :: a1 :: a2 :: a3 :: a4 :: a5 :: a6 :: some z :: ρ) μ1)) (xS S) := by
  rw [s_augI rfl]
  refine WpE_ext fun y μ1 => ?_
  rcases y with p | k
  · cases p <;> first | rfl | exact upd7
  · rfl
theorem s_aug8 {a0 a1 a2 a3 a4 a5 a6 a7 : Option EV} {h : Int → Int → Int} {a : Int} : WpS (augS 8 h fe (a0 :: a1 :: a2 :: a3 :: a4 :: a5 :: a6 :: a7 :: some (.v (.int a)) :: ρ) μ) S = WpE (fe (a0 :: a1 :: a2 :: a3 :: a4 :: a5 :: a6 :: a7 :: some (.v (.int a)) :: ρ) μ) (fun y μ1 => augK h a y fun z => S (.nx (a0 :: a1 :: a2 :: a3 :: a4 :: a5 :: a6 :: a7 :: some z :: ρ) μ1)) (xS S) := by
  rw [s_augI rfl]
  refine WpE_ext fun y μ1 => ?_
  rcases y with p | k
  · cases p <;> first | rfl | exact upd8
  · rfl
theorem s_aug9 {a0 a1 a2 a3 a4 a5 a6 a7 a8 : Option EV} {h : Int → Int → Int} {a : Int} : WpS (augS 9 h fe (a0 :: a1 :: a2 :: a3 :: a4 :: a5 :: a6 :: a7 :: a8 :: some (.v (.int a)) :: ρ) μ) S = WpE (fe (a0 :: a1 :: a2 :: a3 :: a4 :: a5 :: a6 :: a7 :: a8 :: some (.v (.int a)) :: ρ) μ) (fun y μ1 => augK h a y fun z => S (.nx (a0 :: a1 :: a2 :: a3 :: a4 :: a5 :: a6 :: a7 :: a8 :: some z :: ρ) μ1)) (xS S) := by
  rw [s_augI rfl]
  refine WpE_ext fun y μ1 => ?_
  rcases y with p | k
  · cases p <;> first | rfl | exact upd9
  · rfl
theorem s_aug10 {a0 a1 a2 a3 a4 a5 a6 a7 a8 a9 : Option EV} {h : Int → Int → Int} {a : Int} : WpS (augS 10 h fe (a0 :: a1 :: a2 :: a3 :: a4 :: a5 :: a6 :: a7 :: a8 :: a9 :: some (.v (.int a)) :: ρ) μ) S = WpE (fe (a0 :: a1 :: a2 :: a3 :: a4 :: a5 :: a6 :: a7 :: a8 :: a9 :: some (.v (.int a)) :: ρ) μ) (fun y μ1 => augK h a y fun z => S (.nx (a0 :: a1 :: a2 :: a3 :: a4 :: a5 :: a6 :: a7 :: a8 :: a9 :: some z :: ρ) μ1)) (xS S) := by
  rw [s_augI rfl]
  refine WpE_ext fun y μ1 => ?_
  rcases y with p | k
  · cases p <;> first | rfl | exact upd10
  · rfl
theorem s_aug11 {a0 a1 a2 a3 a4 a5 a6 a7 a8 a9 a10 : Option EV} {h : Int → Int → Int} {a : Int} : WpS (augS 11 h fe (a0 :: a1 :: a2 :: a3 :: a4 :: a5 :: a6 :: a7 :: a8 :: a9 :: a10 :: some (.v (.int a)) :: ρ) μ) S = WpE (fe (a0 :: a1 :: a2 :: a3 :: a4 :: a5 :: a6 :: a7 :: a8 :: a9 :: a10 :: some (.v (.int a)) :: ρ) μ) (fun y μ1 => augK h a y fun z => S (.nx (a0 :: a1 :: a2 :: a3 :: a4 :: a5 :: a6 :: a7 :: a8 :: a9 :: a10 :: some z :: ρ) μ1)) (xS S) := by
  rw [s_augI rfl]
  refine WpE_ext fun y μ1 => ?_
  rcases y with p | k
  · cases p <;> first | rfl | exact upd11
  · rfl
theorem s_aug12 {a0 a1 a2 a3 a4 a5 a6 a7 a8 a9 a10 a11 : Option EV} {h : Int → Int → Int} {a : Int} : WpS (augS 12 h fe (a0 :: a1 :: a2 :: a3 :: a4 :: a5 :: a6 :: a7 :: a8 :: a9 :: a10 :: a11 :: some (.v (.int a)) :: ρ) μ) S = WpE (fe (a0 :: a1 :: a2 :: a3 :: a4 :: a5 :: a6 :: a7 :: a8 :: a9 :: a10 :: a11 :: some (.v (.int a)) :: ρ) μ) (fun y μ1 => augK h a y fun z => S (.nx (a0 :: a1 :: a2 :: a3 :: a4 :: a5 :: a6 :: a7 :: a8 :: a9 :: a10 :: a11 :: some z :: ρ) μ1)) (xS S) := by
  rw [s_augI rfl]
  refine WpE_ext fun y μ1 => ?_
  rcases y with p | k
  · cases p <;> first | rfl | exact upd12
  · rfl
theorem s_aug13 {a0 a1 a2 a3 a4 a5 a6 a7 a8 a9 a10 a11 a12 : Option EV} {h : Int → Int → Int} {a : Int} : WpS (augS 13 h fe (a0 :: a1 :: a2 :: a3 :: a4 :: a5 :: a6 :: a7 :: a8 :: a9 :: a10 :: a11 :: a12 :: some (.v (.int a)) :: ρ) μ) S = WpE (fe (a0 :: a1 :: a2 :: a3 :: a4 :: a5 :: a6 :: a7 :: a8 :: a9 :: a10 :: a11 :: a12 :: some (.v (.int a)) :: ρ) μ) (fun y μ1 => augK h a y fun z => S (.nx (a0 :: a1 :: a2 :: a3 :: a4 :: a5 :: a6 :: a7 :: a8 :: a9 :: a10 :: a11 :: a12 :: some z :: ρ) μ1)) (xS S) := by
  rw [s_augI rfl]
  refine WpE_ext fun y μ1 => ?_
  rcases y with p | k
  · cases p <;> first | rfl | exact upd13
  · rfl
theorem s_aug14 {a0 a1 a2 a3 a4 a5 a6 a7 a8 a9 a10 a11 a12 a13 : Option EV} {h : Int → Int → Int} {a : Int} : WpS (augS 14 h fe (a0 :: a1 :: a2 :: a3 :: a4 :: a5 :: a6 :: a7 :: a8 :: a9 :: a10 :: a11 :: a12 :: a13 :: some (.v (.int a)) :: ρ) μ) S = WpE (fe (a0 :: a1 :: a2 :: a3 :: a4 :: a5 :: a6 :: a7 :: a8 :: a9 :: a10 :: a11 :: a12 :: a13 :: some (.v (.int a)) :: ρ) μ) (fun y μ1 => augK h a y fun z => S (.nx (a0 :: a1 :: a2 :: a3 :: a4 :: a5 :: a6 :: a7 :: a8 :: a9 :: a10 :: a11 :: a12 :: a13 :: some z :: ρ) μ1)) (xS S) := by
  rw [s_augI rfl]
  refine WpE_ext fun y μ1 => ?_
  rcases y with p | k
  · cases p <;> first | rfl | exact upd14
  · rfl
theorem s_aug15 {a0 a1 a2 a3 a4 a5 a6 a7 a8 a9 a10 a11 a12 a13 a14 : Option EV} {h : Int → Int → Int} {a : Int} : WpS (augS 15 h fe (a0 :: a1 :: a2 :: a3 :: a4 :: a5 :: a6 :: a7 :: a8 :: a9 :: a10 :: a11 :: a12 :: a13 :: a14 :: some (.v (.int a)) :: ρ) μ) S = WpE (fe (a0 :: a1 :: a2 :: a3 :: a4 :: a5 :: a6 :: a7 :: a8 :: a9 :: a10 :: a11 :: a12 :: a13 :: a14 :: some (.v (.int a)) :: ρ) μ) (fun y μ1 => augK h a y fun z => S (.nx (a0 :: a1 :: a2 :: a3 :: a4 :: a5 :: a6 :: a7 :: a8 :: a9 :: a10 :: a11 :: a12 :: a13 :: a14 :: some z :: ρ) μ1)) (xS S) := by
  rw [s_augI rfl]
  refine WpE_ext fun y μ1 => ?_
  rcases y with p | k
  · cases p <;> first | rfl | exact upd15
  · rfl
theorem s_loop0 {G : FG} {bd : FS} : WpS (loopS G bd [] ρ μ) S = S (.nx ρ μ) := by unfold loopS; exact s_nx
theorem s_loop1 {G : FG} {bd : FS} : WpS (loopS G bd (x :: xs) ρ μ) S = WpE (G x ρ μ) (fun ρ1 μ1 => WpS (bd ρ1 μ1) (turnK (loopS G bd xs) S)) (xS S) := by
  show WpS ((G x ρ μ).stm fun ρ1 μ1 => (bd ρ1 μ1).turn (loopS G bd xs)) S = _
  rw [s_stm]
  exact WpE_ext fun _ _ => s_turnm
theorem s_forS : WpS (forS gs G f ρ μ) S = WpE (gs ρ μ) (fun xs μ1 => WpS (loopS G f xs ρ μ1) S) (xS S) := by
  unfold forS
  repeat' first
    | rw [w_bind]
    | rw [s_stm]
    | rw [w_ok]
    | rw [s_nx]
    | rw [s_rt]
    | rw [w_valsM]
    | rfl
    | refine WpE_ext fun _ _ => ?_
theorem s_wh {n : Nat} : WpS (whS ft f (n + 1) ρ μ) S = WpE (ft ρ μ) (fun c μ1 => WpS (if c then (f ρ μ1).turn (whS ft f n) else .nx ρ μ1) S) (xS S) := by
  show WpS ((ft ρ μ).stm fun c μ1 => if c then (f ρ μ1).turn (whS ft f n) else .nx ρ μ1) S = _
  rw [s_stm]
end
def cellK (x : EV) (k : Nat → Prop) [Tag k] : Prop := match x with
  | .c n => k n
  | _ => False
theorem cellK_eq {n : Nat} {k : Nat → Prop} : cellK (.c n) k = k n := by unfold cellK; exact propext Iff.rfl
def lstCK (c : Cell) (k : List PV → Prop) [Tag k] : Prop := match c with
  | .lst ps => k ps
  | _ => False
theorem lstCK_eq {ps : List PV} {k : List PV → Prop} : lstCK (.lst ps) k = k ps := by unfold lstCK; exact propext Iff.rfl
def lstK (μ : Sto) (n : Nat) (k : List PV → Prop) [Tag k] : Prop := match μ[n]? with
  | some (.lst ps) => k ps
  | _ => False
theorem lstK_eq {μ : Sto} {n : Nat} {k : List PV → Prop} : lstK μ n k = optK μ[n]? fun c => lstCK c k := by
  unfold lstK
  cases μ[n]? with
  | none => exact propext Iff.rfl
  | some c => cases c <;> exact propext Iff.rfl
def seqVK (x : EV) (k : List PV → Prop) [Tag k] : Prop := match x with
  | .v (.lst ps) => k ps
  | .v (.frl ps) => k ps
  | _ => False
theorem seqVK_l {ps : List PV} {k : List PV → Prop} : seqVK (.v (.lst ps)) k = k ps := by unfold seqVK; exact propext Iff.rfl
theorem seqVK_f {ps : List PV} {k : List PV → Prop} : seqVK (.v (.frl ps)) k = k ps := by unfold seqVK; exact propext Iff.rfl
def tupVK (x : EV) (k : List PV → Prop) [Tag k] : Prop := match x with
  | .v (.tup ps) => k ps
  | _ => False
theorem tupVK_eq {ps : List PV} {k : List PV → Prop} : tupVK (.v (.tup ps)) k = k ps := by unfold tupVK; exact propext Iff.rfl
def rng1K (xs : List EV) (k : Int → Prop) [Tag k] : Prop := match xs with
  | [.v (.int j)] => (-(2 ^ 62) ≤ j ∧ j < 2 ^ 62) ∧ k j
  | _ => False
theorem rng1K_eq {j : Int} {k : Int → Prop} : rng1K [.v (.int j)] k = ((-(2 ^ 62) ≤ j ∧ j < 2 ^ 62) ∧ k j) := by unfold rng1K; exact propext Iff.rfl
def tup1K (xs : List EV) (k : List PV → Prop) [Tag k] : Prop := match xs with
  | [.v (.tup ps)] => k ps
  | _ => False
theorem tup1K_eq {ps : List PV} {k : List PV → Prop} : tup1K [.v (.tup ps)] k = k ps := by unfold tup1K; exact propext Iff.rfl
def str1K (xs : List EV) (k : Str → Prop) [Tag k] : Prop := match xs with
  | [.v (.str z)] => k z
  | _ => False
theorem str1K_eq {z : Str} {k : Str → Prop} : str1K [.v (.str z)] k = k z := by unfold str1K; exact propext Iff.rfl
def intK (x : EV) (k : Int → Prop) [Tag k] : Prop := match x with
  | .v (.int i) => k i
  | _ => False
theorem intK_eq {i : Int} {k : Int → Prop} : intK (.v (.int i)) k = k i := by unfold intK; exact propext Iff.rfl
def strsK (o : Option (List PV)) (k : List Str → Prop) [Tag k] : Prop := match o with
  | some ps => (match strsOf ps with
    | some xs => xs.length < 64 ∧ k xs
    | none => False)
  | none => False
theorem strsOf_map (xs : List Str) : strsOf (xs.map PV.str) = some xs := by
  induction xs with
  | nil => rfl
  | cons x r ih => simp [strsOf, ih]
theorem strsK_eq {xs : List Str} {k : List Str → Prop} : strsK (some (xs.map PV.str)) k = (xs.length < 64 ∧ k xs) := by
  unfold strsK
  simp only [strsOf_map]
section
variable {a b i j : Int} {μ : Sto} {Q : EV → Sto → Prop} {L : List EV → Sto → Prop} {B : Bool → Sto → Prop} {X : XQ} {S : So → Prop} {s t : Str} {ps qs : List PV} {p q : PV} {x y : EV} {ρ : Env} {fe fo : FE} {gs : FA} {cl : FC} {n : Nat} {cs : List Str} {f : Str} {c : Str} {ns : List Str} {vs : List PV}
theorem v_sub : WpE (subO (.v (.int a)) (.v (.int b)) μ) Q X = Q (.v (.int (a - b))) μ := by unfold WpE subO intO; exact propext Iff.rfl
theorem v_lt : WpE (ltO (.v (.int a)) (.v (.int b)) μ) Q X = Q (.v (.bl (decide (a < b)))) μ := by unfold WpE ltO intO; exact propext Iff.rfl
theorem v_le : WpE (leO (.v (.int a)) (.v (.int b)) μ) Q X = Q (.v (.bl (decide (a ≤ b)))) μ := by unfold WpE leO intO; exact propext Iff.rfl
theorem v_gt : WpE (gtO (.v (.int a)) (.v (.int b)) μ) Q X = Q (.v (.bl (decide (b < a)))) μ := by unfold WpE gtO intO; exact propext Iff.rfl
theorem v_ge : WpE (geO (.v (.int a)) (.v (.int b)) μ) Q X = Q (.v (.bl (decide (b ≤ a)))) μ := by unfold WpE geO intO; exact propext Iff.rfl
theorem w_guard' {c : Prop} [Decidable c] {p : EV} : WpE (if c then .ok p μ else .no) Q X = (c ∧ Q p μ) := w_guard
theorem v_mul : WpE (mulO (.v (.int a)) (.v (.int b)) μ) Q X = (((-(2 ^ 64) < a ∧ a < 2 ^ 64) ∨ (-(2 ^ 64) < b ∧ b < 2 ^ 64)) ∧ Q (.v (.int (a * b))) μ) := by
  show WpE (if smallB a b = true then _ else _) Q X = _
  rw [w_guard]
  unfold smallB
  simp only [Bool.or_eq_true, Bool.and_eq_true, decide_eq_true_eq]
theorem v_fdiv : WpE (fdivO (.v (.int a)) (.v (.int b)) μ) Q X = ((0 < b ∧ b < 2 ^ 64) ∧ Q (.v (.int (a / b))) μ) := by
  show WpE (if divB a b = true then _ else _) Q X = _
  rw [w_guard]
  unfold divB
  simp only [Bool.and_eq_true, decide_eq_true_eq]
theorem v_mod : WpE (modO (.v (.int a)) (.v (.int b)) μ) Q X = (0 < b ∧ Q (.v (.int (a % b))) μ) := by
  show WpE (if posB a b = true then _ else _) Q X = _
  rw [w_guard]
  unfold posB
  simp only [decide_eq_true_eq]
theorem v_pow : WpE (powO (.v (.int a)) (.v (.int b)) μ) Q X = ((0 ≤ b ∧ b ≤ 1000000 ∧ a.natAbs < 2 ^ 64) ∧ Q (.v (.int (a ^ b.toNat))) μ) := by
  show WpE (if powB a b = true then _ else _) Q X = _
  rw [w_guard]
  unfold powB
  simp only [Bool.and_eq_true, decide_eq_true_eq]
theorem v_addI : WpE (addO (.v (.int a)) (.v (.int b)) μ) Q X = Q (.v (.int (a + b))) μ := by unfold WpE addO; exact propext Iff.rfl
theorem v_addT : WpE (addO (.v (.tup ps)) (.v (.tup qs)) μ) Q X = (ps.length + qs.length ≤ sizeLine ∧ Q (.v (.tup (ps ++ qs))) μ) := by
  show WpE (if _ then _ else _) Q X = _
  rw [w_ite, w_ok, w_no]
  by_cases h : ps.length + qs.length ≤ sizeLine <;> simp [h]
theorem v_addL : WpE (addO (.v (.lst ps)) (.v (.lst qs)) μ) Q X = (ps.length + qs.length ≤ sizeLine ∧ Q (.v (.lst (ps ++ qs))) μ) := by
  show WpE (if _ then _ else _) Q X = _
  rw [w_ite, w_ok, w_no]
  by_cases h : ps.length + qs.length ≤ sizeLine <;> simp [h]
theorem v_eqI : WpE (eqO (.v (.int a)) (.v (.int b)) μ) Q X = Q (.v (.bl (decide (a = b)))) μ := by unfold WpE eqO eqB; exact propext Iff.rfl
theorem v_neI : WpE (neO (.v (.int a)) (.v (.int b)) μ) Q X = Q (.v (.bl (!decide (a = b)))) μ := by unfold WpE neO eqB; exact propext Iff.rfl
theorem v_eqS : WpE (eqO (.v (.str s)) (.v (.str t)) μ) Q X = Q (.v (.bl (decide (s = t)))) μ := by unfold WpE eqO eqB; exact propext Iff.rfl
theorem v_neS : WpE (neO (.v (.str s)) (.v (.str t)) μ) Q X = Q (.v (.bl (!decide (s = t)))) μ := by unfold WpE neO eqB; exact propext Iff.rfl
theorem v_eqB {r : Bool} (h : eqB p q = some r) : WpE (eqO (.v p) (.v q) μ) Q X = Q (.v (.bl r)) μ := by unfold eqO; simp only [h, w_ok]
theorem v_neB {r : Bool} (h : eqB p q = some r) : WpE (neO (.v p) (.v q) μ) Q X = Q (.v (.bl (!r))) μ := by unfold neO; simp only [h, w_ok]
theorem v_in {r : Bool} (h : inB x y μ = some r) : WpE (inO x y μ) Q X = Q (.v (.bl r)) μ := by unfold inO; simp only [h, w_ok]
theorem v_notIn {r : Bool} (h : inB x y μ = some r) : WpE (notInO x y μ) Q X = Q (.v (.bl (!r))) μ := by unfold notInO; simp only [h, w_ok]
theorem v_isN : WpE (isNO x (.v .non) μ) Q X = Q (.v (.bl ((isNon x).getD false))) μ := by unfold isNO; exact w_ok
theorem v_notN : WpE (notNO x (.v .non) μ) Q X = Q (.v (.bl (!(isNon x).getD false))) μ := by unfold notNO; exact w_ok
theorem v_ixT : WpE (ixAO (.v (.tup ps)) (.v (.int i)) μ) Q X = optK (atI ps i) fun r => Q (.v r) μ := by
  show WpE (match atI ps i with | some p => Ro.ok (EV.v p) μ | none => .no) Q X = _
  cases atI ps i <;> first | exact w_ok | exact w_no
theorem v_ixL : WpE (ixAO (.v (.lst ps)) (.v (.int i)) μ) Q X = optK (atI ps i) fun r => Q (.v r) μ := by
  show WpE (match atI ps i with | some p => Ro.ok (EV.v p) μ | none => .no) Q X = _
  cases atI ps i <;> first | exact w_ok | exact w_no
theorem v_ixF : WpE (ixAO (.v (.frl ps)) (.v (.int i)) μ) Q X = optK (atI ps i) fun r => Q (.v r) μ := by
  show WpE (match atI ps i with | some p => Ro.ok (EV.v p) μ | none => .no) Q X = _
  cases atI ps i <;> first | exact w_ok | exact w_no
def ixCK (c : Cell) (p : PV) (k : PV → Prop) [Tag k] : Prop := match c with
  | .lst ps => (match p with
    | .int i => optK (atI ps i) k
    | _ => False)
  | .dct ks vs => optK (keyP p) fun q => optK (getK q ks vs) k
  | _ => False
theorem ixCK_l {k : PV → Prop} : ixCK (.lst ps) (.int i) k = optK (atI ps i) k := by unfold ixCK; exact propext Iff.rfl
theorem ixCK_d {ks : List Key} {k : PV → Prop} : ixCK (.dct ks vs) p k = optK (keyP p) fun q => optK (getK q ks vs) k := by unfold ixCK; exact propext Iff.rfl
theorem v_ixC {k : Nat} : WpE (ixAO (.c k) (.v p) μ) Q X = optK μ[k]? fun c => ixCK c p fun r => Q (.v r) μ := by
  unfold ixAO dctE ixO seqE
  cases h : μ[k]? with
  | none => cases p <;> first | (simp only [h]; exact w_no) | skip
  | some c =>
    simp only [h]
    cases c with
    | lst ps => cases p with
      | int i =>
        show WpE (match atI ps i with | some p => Ro.ok (EV.v p) μ | none => .no) Q X = optK (atI ps i) _
        cases atI ps i <;> first | exact w_ok | exact w_no
      | _ => exact w_no
    | dct ks vs =>
      show WpE (match keyP p with | some k => (match getK k ks vs with | some r => .ok (.v r) μ | none => .no) | none => .no) Q X = optK (keyP p) _
      cases keyP p with
      | none => exact w_no
      | some q =>
        show WpE (match getK q ks vs with | some r => .ok (.v r) μ | none => .no) Q X = optK (getK q ks vs) _
        cases getK q ks vs <;> first | exact w_ok | exact w_no
    | dead => cases p <;> exact w_no
    | ins c ns vs => cases p <;> exact w_no
theorem v_ixD {ks : List Key} : WpE (ixAO (.v (.dct ks vs)) (.v p) μ) Q X = optK (keyP p) fun q => optK (getK q ks vs) fun r => Q (.v r) μ := by
  show WpE (match keyP p with | some k => (match getK k ks vs with | some r => .ok (.v r) μ | none => .no) | none => .no) Q X = optK (keyP p) _
  cases keyP p with
  | none => exact w_no
  | some q =>
    show WpE (match getK q ks vs with | some r => .ok (.v r) μ | none => .no) Q X = optK (getK q ks vs) _
    cases getK q ks vs <;> first | exact w_ok | exact w_no
theorem v_lenT : WpE (lenO [.v (.tup ps)] μ) Q X = Q (.v (.int ps.length)) μ := by unfold WpE lenO; exact propext Iff.rfl
theorem v_lenL : WpE (lenO [.v (.lst ps)] μ) Q X = Q (.v (.int ps.length)) μ := by unfold WpE lenO; exact propext Iff.rfl
theorem v_lenF : WpE (lenO [.v (.frl ps)] μ) Q X = Q (.v (.int ps.length)) μ := by unfold WpE lenO; exact propext Iff.rfl
theorem v_int : WpE (int1O [.v (.int i)] μ) Q X = Q (.v (.int i)) μ := by unfold WpE int1O; exact propext Iff.rfl
theorem v_min2 : WpE (min2O [.v (.int a), .v (.int b)] μ) Q X = Q (.v (.int (if b < a then b else a))) μ := by unfold WpE min2O int2O; exact propext Iff.rfl
theorem v_max2 : WpE (max2O [.v (.int a), .v (.int b)] μ) Q X = Q (.v (.int (if b > a then b else a))) μ := by unfold WpE max2O int2O; exact propext Iff.rfl
theorem v_tupL : WpE (tupleO [.v (.lst ps)] μ) Q X = Q (.v (.tup ps)) μ := by unfold WpE tupleO; exact propext Iff.rfl
theorem w_callM : WpE (callM cl n gs ρ μ) Q X = WpE (gs ρ μ) (fun xs μ1 => WpE (callS cl n xs μ1) Q X) X := by unfold callM; exact w_bind
theorem w_callWN : WpE (callWN cl n gs ρ μ) Q X = WpE (gs ρ μ) (fun xs μ1 => WpE (callWn cl n xs μ1) Q X) X := by unfold callWN; exact w_bind
theorem w_makeM : WpE (makeM c cl gs ρ μ) Q X = WpE (gs ρ μ) (fun xs μ1 => WpE (makeS c cl xs μ1) Q X) X := by unfold makeM; exact w_bind
theorem w_makeN : WpE (makeN c cl n gs ρ μ) Q X = WpE (gs ρ μ) (fun xs μ1 => WpE (if xs.length + 1 = n then makeS c cl xs μ1 else .no) Q X) X := by unfold makeN; exact w_bind
theorem w_makeWN : WpE (makeWN c cl n gs ρ μ) Q X = WpE (gs ρ μ) (fun xs μ1 => WpE (makeW c cl n xs μ1) Q X) X := by unfold makeWN; exact w_bind
theorem w_fldM : WpE (fldM cs f fe ρ μ) Q X = WpE (fe ρ μ) (fun x μ1 => WpE (fldE cs f x μ1) Q X) X := by unfold fldM; exact w_bind
theorem v_fld : WpE (fldE cs f (.v (.ins c ns vs)) μ) Q X = (cs.contains c = true ∧ optK ((ns.zip vs).lookup f) fun r => Q (.v r) μ) := by
  show WpE (if cs.contains c = true then (match (ns.zip vs).lookup f with | some p => .ok (.v p) μ | none => .no) else .no) Q X = _
  by_cases h : cs.contains c = true
  · rw [if_pos h]
    refine Eq.trans ?_ (propext ⟨fun q => ⟨h, q⟩, fun q => q.2⟩)
    cases (ns.zip vs).lookup f <;> first | exact w_ok | exact w_no
  · rw [if_neg h, w_no]
    exact propext ⟨fun q => q.elim, fun q => (h q.1).elim⟩
def insK (cs : List Str) (f : Str) (c : Cell) (k : EV → Prop) [Tag k] : Prop := match c with
  | .ins c ns vs => cs.contains c = true ∧ optK ((ns.zip vs).lookup f) k
  | _ => False
theorem insK_eq {es : List EV} {k : EV → Prop} : insK cs f (.ins c ns es) k = (cs.contains c = true ∧ optK ((ns.zip es).lookup f) k) := by unfold insK; exact propext Iff.rfl
theorem v_fldC {k : Nat} : WpE (fldE cs f (.c k) μ) Q X = optK μ[k]? fun c => insK cs f c fun r => Q r μ := by
  unfold fldE
  show WpE (match μ[k]? with | some (.ins c ns vs) => _ | _ => .no) Q X = _
  cases μ[k]? with
  | none => exact w_no
  | some z => cases z with
    | ins c ns vs =>
      show WpE (if cs.contains c = true then (match (ns.zip vs).lookup f with | some p => .ok p μ | none => .no) else .no) Q X = (cs.contains c = true ∧ optK ((ns.zip vs).lookup f) fun r => Q r μ)
      by_cases h : cs.contains c = true
      · rw [if_pos h]
        refine Eq.trans ?_ (propext ⟨fun q => ⟨h, q⟩, fun q => q.2⟩)
        cases (ns.zip vs).lookup f <;> first | exact w_ok | exact w_no
      · rw [if_neg h, w_no]
        exact propext ⟨fun q => q.elim, fun q => (h q.1).elim⟩
    | _ => exact w_no
theorem w_frM : WpE (frM fe ρ μ) Q X = WpE (fe ρ μ) (fun x μ1 => WpE (freeze x μ1) Q X) X := by unfold frM; exact w_bind
theorem v_frV : WpE (freeze (.v p) μ) Q X = Q (.v p) μ := by unfold WpE freeze; exact propext Iff.rfl
theorem v_frC {k : Nat} : WpE (freeze (.c k) μ) Q X = lstK μ k fun ps => evK (μ.set k .dead) fun μ1 => Q (.v (.lst ps)) μ1 := by
  unfold freeze lstK evK
  show WpE (match μ[k]? with | some (.lst ps) => .ok (.v (.lst ps)) (μ.set k .dead) | _ => .no) Q X = _
  cases μ[k]? with
  | none => exact w_no
  | some z => cases z <;> first | exact w_ok | exact w_no
theorem w_bmC {o : Nat → List PV → List EV → Sto → Ro EV} : WpE (bmC o fo gs ρ μ) Q X = WpE (fo ρ μ) (fun x μ1 => cellK x fun k => lstK μ1 k fun _ => WpE (gs ρ μ1) (fun xs μ2 => lstK μ2 k fun ps => WpE (o k ps xs μ2) Q X) X) X := by
  unfold bmC
  rw [w_bind]
  refine WpE_ext fun x μ1 => ?_
  cases x with
  | v p => simp only [w_no]; rfl
  | c k =>
    rw [cellK_eq]
    unfold lstK
    show WpE (match μ1[k]? with | some (.lst _) => _ | _ => .no) Q X = _
    cases μ1[k]? with
    | none => exact w_no
    | some y => cases y with
      | lst ps0 =>
        show WpE ((gs ρ μ1).bind _) Q X = _
        rw [w_bind]
        refine WpE_ext fun xs μ2 => ?_
        cases μ2[k]? with
        | none => exact w_no
        | some z => cases z <;> first | rfl | exact w_no
      | dead => exact w_no
      | dct ks vs => exact w_no
      | ins c ns vs => exact w_no
theorem w_itSeqM : WpE (itSeqM fe ρ μ) L X = WpE (fe ρ μ) (fun x μ1 => seqVK x fun ps => evK (ps.map EV.v) fun es => L es μ1) X := by
  unfold itSeqM
  rw [w_bind]
  refine WpE_ext fun x μ1 => ?_
  unfold seqVK evK
  rcases x with p | k
  · cases p <;> first | exact w_ok | exact w_no
  · exact w_no
theorem w_itTupM : WpE (itTupM fe ρ μ) L X = WpE (fe ρ μ) (fun x μ1 => tupVK x fun ps => evK (ps.map EV.v) fun es => L es μ1) X := by
  unfold itTupM
  rw [w_bind]
  refine WpE_ext fun x μ1 => ?_
  unfold tupVK evK
  rcases x with p | k
  · cases p <;> first | exact w_ok | exact w_no
  · exact w_no
theorem w_rng1M : WpE (rng1M gs ρ μ) L X = WpE (gs ρ μ) (fun xs μ1 => rng1K xs fun j => L (intsFrom 0 j.toNat) μ1) X := by
  unfold rng1M
  rw [w_bind]
  refine WpE_ext fun x μ1 => ?_
  unfold rng1K
  rcases x with _ | ⟨y, _ | ⟨z, r⟩⟩
  · exact w_no
  · rcases y with p | k
    · cases p <;> first | exact w_guard | exact w_no
    · exact w_no
  · rcases y with p | k
    · cases p <;> exact w_no
    · exact w_no
theorem w_subG {fi : FE} {R : Env → Sto → Prop} : WpE (subG fo fi x ρ μ) R X = WpE (fo ρ μ) (fun z μ1 => WpE (fi ρ μ1) (fun y μ2 => WpE (setO z y x μ2) (fun _ μ3 => R ρ μ3) X) X) X := by
  unfold subG
  rw [w_bind]
  refine WpE_ext fun z μ1 => ?_
  rw [w_bind]
  refine WpE_ext fun y μ2 => ?_
  rw [w_bind]
  exact WpE_ext fun _ _ => w_ok
theorem w_setO {k : Nat} : WpE (setO (.c k) (.v (.int i)) (.v p) μ) Q X = lstK μ k fun ps => optK (ixN ps.length i) fun m => evK (μ.set k (.lst (ps.set m p))) fun μ1 => Q (.v .non) μ1 := by
  unfold setO lstK evK
  show WpE (match μ[k]? with | some (.lst ps) => (match ixN ps.length i with | some j => .ok (.v .non) (μ.set k (.lst (ps.set j p))) | none => .no) | _ => .no) Q X = _
  cases μ[k]? with
  | none => exact w_no
  | some z => cases z with
    | lst ps =>
      show WpE (match ixN ps.length i with | some j => .ok (.v .non) (μ.set k (.lst (ps.set j p))) | none => .no) Q X = optK (ixN ps.length i) _
      cases ixN ps.length i <;> first | exact w_ok | exact w_no
    | _ => exact w_no
theorem v_append {k : Nat} : WpE (appendO k ps [.v p] μ) Q X = (ps.length < sizeLine ∧ evK (μ.set k (.lst (ps ++ [p]))) fun μ1 => Q (.v .non) μ1) := by
  unfold appendO evK
  exact w_guard
theorem v_popAt {k : Nat} : WpE (popAtO k ps [.v (.int i)] μ) Q X = ((-(2 ^ 63) ≤ i ∧ i < 2 ^ 63) ∧ optK (seqIndex? i ps.length) fun j => optK ps[j]? fun p => evK (μ.set k (.lst (ps.eraseIdx j))) fun μ1 => Q (.v p) μ1) := by
  unfold popAtO evK
  show WpE (if _ then _ else _) Q X = _
  by_cases h : -(2 ^ 63) ≤ i ∧ i < 2 ^ 63
  · rw [if_pos h]
    refine Eq.trans ?_ (propext ⟨fun q => ⟨h, q⟩, fun q => q.2⟩)
    cases seqIndex? i ps.length with
    | none => exact w_no
    | some j =>
      show WpE (match ps[j]? with | some p => _ | none => _) Q X = optK ps[j]? _
      cases ps[j]? <;> first | exact w_ok | exact w_no
  · rw [if_neg h, w_no]
    exact propext ⟨fun q => q.elim, fun q => (h q.1).elim⟩
theorem w_lcN {os : List Nat} {fi : FA} {G : FG} {tt : FT} {te : FE} : WpE (lcN os fi G tt te ρ μ) Q X = WpE (fi ρ μ) (fun xs μ1 => evK (wipeR ρ os) fun ρ1 => WpE (lcGo G tt te ρ1 xs [] μ1) (fun ps μ2 => Q (.v (.lst ps)) μ2) X) X := by
  unfold lcN evK
  rw [w_bind]
  refine WpE_ext fun xs μ1 => ?_
  rw [w_bind]
  exact WpE_ext fun _ _ => w_ok
theorem w_sortSetM : WpE (sortSetM fe ρ μ) Q X = WpE (fe ρ μ) (fun x μ1 => strsK (lstE x μ1) fun xs => Q (.v (.lst ((sortU xs).map PV.str))) μ1) X := by
  unfold sortSetM
  rw [w_bind]
  refine WpE_ext fun x μ1 => ?_
  unfold strsK
  cases lstE x μ1 with
  | none => exact w_no
  | some ps =>
    cases h : strsOf ps with
    | none => simp only [h]; exact w_no
    | some ys => simp only [h]; exact w_guard
theorem w_body {fS : FS} {m : Nat} {xs : List EV} : WpE (bodyM m fS xs μ) Q X = evK (startE m xs) fun ρ => WpS (fS ρ μ) (finK Q X) := by unfold bodyM evK; exact w_fin
def clsCK (c : Cell) (k : Str → List Str → Prop) [Tag k] : Prop := match c with
  | .ins c ns _ => k c ns
  | _ => False
theorem clsCK_eq {es : List EV} {k : Str → List Str → Prop} : clsCK (.ins c ns es) k = k c ns := by unfold clsCK; exact propext Iff.rfl
def clsK (x : EV) (μ : Sto) (k : Str → List Str → Prop) [Tag k] : Prop := match clsOf x μ with
  | some (c, ns, _) => k c ns
  | none => False
theorem clsK_v {k : Str → List Str → Prop} : clsK (.v (.ins c ns vs)) μ k = k c ns := by unfold clsK; exact propext Iff.rfl
theorem clsK_c {j : Nat} {k : Str → List Str → Prop} : clsK (.c j) μ k = optK μ[j]? fun y => clsCK y k := by
  unfold clsK clsOf
  cases h : μ[j]? with
  | none => simp only [h]; exact optK_none.symm
  | some y => cases y <;> (simp only [h]; rw [optK_some]; exact propext Iff.rfl)
theorem w_callWn {xs : List EV} : WpE (callWn cl n xs μ) Q X = (xs.length = n ∧ WpE (cl xs μ) Q X) := by
  unfold callWn
  by_cases h : xs.length = n
  · rw [if_pos h]; exact propext ⟨fun q => ⟨h, q⟩, fun q => q.2⟩
  · rw [if_neg h, w_no]; exact propext ⟨fun q => q.elim, fun q => (h q.1).elim⟩
theorem w_methM {m : Str} : WpE (methM c m cl n fo gs ρ μ) Q X = WpE (fo ρ μ) (fun x μ1 => clsK x μ1 fun c' ns => (c' = c ∧ ns.contains m = false) ∧ WpE (gs ρ μ1) (fun xs μ2 => WpE (callS cl n (x :: xs) μ2) Q X) X) X := by
  unfold methM clsK
  rw [w_bind]
  refine WpE_ext fun x μ1 => ?_
  cases clsOf x μ1 with
  | none => exact w_no
  | some z =>
    obtain ⟨c', ns, l⟩ := z
    show WpE (if c' = c ∧ ns.contains m = false then (gs ρ μ1).bind _ else .no) Q X = _
    by_cases h : c' = c ∧ ns.contains m = false
    · rw [if_pos h, w_bind]; exact propext ⟨fun q => ⟨h, q⟩, fun q => q.2⟩
    · rw [if_neg h, w_no]; exact propext ⟨fun q => q.elim, fun q => (h q.1).elim⟩
theorem w_methW {m : Str} : WpE (methW c m cl n fo gs ρ μ) Q X = WpE (fo ρ μ) (fun x μ1 => clsK x μ1 fun c' ns => (c' = c ∧ ns.contains m = false) ∧ WpE (gs ρ μ1) (fun xs μ2 => WpE (callWn cl n (x :: xs) μ2) Q X) X) X := by
  unfold methW clsK
  rw [w_bind]
  refine WpE_ext fun x μ1 => ?_
  cases clsOf x μ1 with
  | none => exact w_no
  | some z =>
    obtain ⟨c', ns, l⟩ := z
    show WpE (if c' = c ∧ ns.contains m = false then (gs ρ μ1).bind _ else .no) Q X = _
    by_cases h : c' = c ∧ ns.contains m = false
    · rw [if_pos h, w_bind]; exact propext ⟨fun q => ⟨h, q⟩, fun q => q.2⟩
    · rw [if_neg h, w_no]; exact propext ⟨fun q => q.elim, fun q => (h q.1).elim⟩
def nonK (x : EV) (k : Prop) [Tag k] : Prop := match x with
  | .v .non => k
  | _ => False
theorem nonK_eq {k : Prop} : nonK (.v .non) k = k := by unfold nonK; exact propext Iff.rfl
theorem w_makeW {xs : List EV} : WpE (makeW c cl n xs μ) Q X = (xs.length + 1 = n ∧ evK μ.length fun k => evK (μ ++ [.ins c [] []]) fun μ' => WpE (cl (.c k :: xs) μ') (fun v μ2 => nonK v (Q (.c k) μ2)) X) := by
  unfold makeW evK
  by_cases h : xs.length + 1 = n
  · rw [if_pos h, w_bind]
    refine Eq.trans ?_ (propext ⟨fun q => ⟨h, q⟩, fun q => q.2⟩)
    refine WpE_ext fun v μ2 => ?_
    rcases v with p | k
    · cases p <;> first | exact w_ok | exact w_no
    · exact w_no
  · rw [if_neg h, w_no]; exact propext ⟨fun q => q.elim, fun q => (h q.1).elim⟩
def insPK (cs : List Str) (f : Str) (y : EV) (c : Cell) (k : Cell → Prop) [Tag k] : Prop := match c with
  | .ins c ns vs => (cs.contains c = true ∧ ns.length < 1000) ∧ k (.ins c (putNs f ns) (putVs f y ns vs))
  | _ => False
theorem insPK_eq {es : List EV} {k : Cell → Prop} : insPK cs f y (.ins c ns es) k = ((cs.contains c = true ∧ ns.length < 1000) ∧ evK (Cell.ins c (putNs f ns) (putVs f y ns es)) k) := by unfold insPK evK; exact propext Iff.rfl
theorem s_setfS : WpS (setfS cs f fe fo ρ μ) S = WpE (fe ρ μ) (fun y μ1 => WpE (fo ρ μ1) (fun x μ2 => cellK x fun k => optK μ2[k]? fun c => insPK cs f y c fun c' => evK (μ2.set k c') fun μ3 => S (.nx ρ μ3)) (xS S)) (xS S) := by
  unfold setfS
  rw [s_stm]
  refine WpE_ext fun y μ1 => ?_
  rw [s_stm]
  refine WpE_ext fun x μ2 => ?_
  unfold setfE cellK
  cases x with
  | v p => exact s_no
  | c k =>
    show WpS (match μ2[k]? with | some (.ins c ns vs) => (if cs.contains c ∧ ns.length < 1000 then .nx ρ (μ2.set k (.ins c (putNs f ns) (putVs f y ns vs))) else .no) | _ => .no) S = optK μ2[k]? _
    cases μ2[k]? with
    | none => exact s_no
    | some z => cases z with
      | ins c ns vs =>
        show WpS (if cs.contains c = true ∧ ns.length < 1000 then .nx ρ (μ2.set k (.ins c (putNs f ns) (putVs f y ns vs))) else .no) S = _
        rw [optK_some]
        unfold insPK evK
        by_cases h : cs.contains c = true ∧ ns.length < 1000
        · rw [if_pos h, s_nx]; exact propext ⟨fun q => ⟨h, q⟩, fun q => q.2⟩
        · rw [if_neg h, s_no]; exact propext ⟨fun q => q.elim, fun q => (h q.1).elim⟩
      | _ => exact s_no
theorem v_isi {z : PV} : WpE (isiO cs [x, .v z] μ) Q X = optK (tnE x μ) fun t => optK (isB cs t z) fun b => Q (.v (.bl b)) μ := by
  unfold isiO
  show WpE (match tnE x μ with | some t => (match isB cs t z with | some b => .ok (.v (.bl b)) μ | none => .no) | none => .no) Q X = _
  cases tnE x μ with
  | none => exact w_no
  | some t =>
    show WpE (match isB cs t z with | some b => .ok (.v (.bl b)) μ | none => .no) Q X = optK (isB cs t z) _
    cases isB cs t z <;> first | exact w_ok | exact w_no
theorem tnE_v : tnE (.v p) μ = tnP p := (Eq.trans rfl rfl)
theorem tnP_non : tnP .non = some (.b "NoneType") := (Eq.trans rfl rfl)
theorem tnP_bl {b : Bool} : tnP (.bl b) = some (.b "bool") := (Eq.trans rfl rfl)
theorem tnP_int : tnP (.int i) = some (.b "int") := (Eq.trans rfl rfl)
theorem tnP_str : tnP (.str s) = some (.b "str") := (Eq.trans rfl rfl)
theorem tnP_tup : tnP (.tup ps) = some (.b "tuple") := (Eq.trans rfl rfl)
theorem tnP_lst : tnP (.lst ps) = some (.b "list") := (Eq.trans rfl rfl)
theorem tnP_ins : tnP (.ins c ns vs) = some (.o c) := (Eq.trans rfl rfl)
theorem w_enumM : WpE (enumM gs ρ μ) L X = WpE (gs ρ μ) (fun xs μ1 => tup1K xs fun ps => evK (numb 0 ps) fun es => L es μ1) X := by
  unfold enumM
  rw [w_bind]
  refine WpE_ext fun xs μ1 => ?_
  unfold tup1K evK
  rcases xs with _ | ⟨y, _ | ⟨z, r⟩⟩
  · exact w_no
  · rcases y with p | k
    · cases p <;> first | exact w_ok | exact w_no
    · exact w_no
  · rcases y with p | k
    · cases p <;> exact w_no
    · exact w_no
theorem w_starM : WpE (starM fe ρ μ) L X = WpE (fe ρ μ) (fun x μ1 => optK (seqE x μ1) fun ps => evK (ps.map EV.v) fun es => L es μ1) X := by
  unfold starM
  rw [w_bind]
  refine WpE_ext fun x μ1 => ?_
  cases seqE x μ1 <;> first | exact w_ok | exact w_no
theorem seqE_t : seqE (.v (.tup ps)) μ = some ps := (Eq.trans rfl rfl)
theorem seqE_l : seqE (.v (.lst ps)) μ = some ps := (Eq.trans rfl rfl)
theorem lstE_l : lstE (.v (.lst ps)) μ = some ps := (Eq.trans rfl rfl)
theorem lstE_f : lstE (.v (.frl ps)) μ = some ps := (Eq.trans rfl rfl)
theorem w_nxM : WpE (nxM fe ρ μ) Q X = WpE (fe ρ μ) Q (fun _ _ _ _ => False) := by
  unfold nxM nx
  cases fe ρ μ <;> exact propext Iff.rfl
theorem w_nxT {ft : FT} : WpE (nxT ft ρ μ) B X = WpE (ft ρ μ) B (fun _ _ _ _ => False) := by
  unfold nxT nx
  cases ft ρ μ <;> exact propext Iff.rfl
theorem w_propN : WpE (propN c cl fo ρ μ) Q X = WpE (fo ρ μ) (fun x μ1 => clsK x μ1 fun c' _ => c' = c ∧ WpE (callS cl 1 [x] μ1) Q (fun _ _ _ _ => False)) X := by
  unfold propN clsK
  rw [w_bind]
  refine WpE_ext fun x μ1 => ?_
  cases clsOf x μ1 with
  | none => exact w_no
  | some z =>
    obtain ⟨c', ns, l⟩ := z
    show WpE (P.nx (if c' = c then callS cl 1 [x] μ1 else .no)) Q X = _
    by_cases h : c' = c
    · rw [if_pos h]
      refine Eq.trans ?_ (propext ⟨fun q => ⟨h, q⟩, fun q => q.2⟩)
      unfold P.nx
      cases callS cl 1 [x] μ1 <;> exact propext Iff.rfl
    · rw [if_neg h]; exact Eq.trans w_no (propext ⟨fun q => q.elim, fun q => (h q.1).elim⟩)
theorem w_gIxM {ys : List Str} : WpE (gIxM ys gs ρ μ) Q X = WpE (gs ρ μ) (fun xs μ1 => str1K xs fun z => optK (firstAt z ys 0) fun j => Q (.v (.int (j : Nat))) μ1) X := by
  unfold gIxM
  rw [w_bind]
  refine WpE_ext fun xs μ1 => ?_
  unfold str1K
  rcases xs with _ | ⟨y, _ | ⟨z, r⟩⟩
  · exact w_no
  · rcases y with p | k
    · cases p with
      | str s =>
        show WpE (match firstAt s ys 0 with | some j => _ | none => .no) Q X = optK (firstAt s ys 0) _
        cases firstAt s ys 0 <;> first | exact w_ok | exact w_no
      | _ => exact w_no
    · exact w_no
  · rcases y with p | k
    · cases p <;> exact w_no
    · exact w_no
theorem w_slM {fl fh : Env → Sto → Ro (Option Int)} : WpE (slM fe fl fh ρ μ) Q X = WpE (fe ρ μ) (fun x μ1 => WpE (fl ρ μ1) (fun lo μ2 => WpE (fh ρ μ2) (fun hi μ3 => WpE (slO x lo hi μ3) Q X) X) X) X := by
  unfold slM
  rw [w_bind]
  refine WpE_ext fun x μ1 => ?_
  rw [w_bind]
  refine WpE_ext fun lo μ2 => ?_
  rw [w_bind]
theorem w_noPM {L : Option Int → Sto → Prop} : WpE (noPM ρ μ) L X = L none μ := by unfold noPM; exact w_ok
theorem w_partM {L : Option Int → Sto → Prop} : WpE (partM fe ρ μ) L X = WpE (fe ρ μ) (fun x μ1 => intK x fun i => L (some i) μ1) X := by
  unfold partM
  rw [w_bind]
  refine WpE_ext fun x μ1 => ?_
  unfold intK
  rcases x with p | k
  · cases p <;> first | exact w_ok | exact w_no
  · exact w_no
theorem v_slT {lo hi : Option Int} : WpE (slO (.v (.tup ps)) lo hi μ) Q X = Q (.v (.tup (cutP ps lo hi))) μ := by unfold slO; exact w_ok
theorem v_slL {lo hi : Option Int} : WpE (slO (.v (.lst ps)) lo hi μ) Q X = Q (.v (.lst (cutP ps lo hi))) μ := by unfold slO lstE; exact w_ok
theorem v_frlL {lo hi : Option Int} : WpE (slO (.v (.frl ps)) lo hi μ) Q X = Q (.v (.lst (cutP ps lo hi))) μ := by unfold slO lstE; exact w_ok
theorem w_revM : WpE (revM fe ρ μ) Q X = WpE (fe ρ μ) (fun x μ1 => optK (lstE x μ1) fun ps => Q (.v (.lst ps.reverse)) μ1) X := by
  unfold revM
  rw [w_bind]
  refine WpE_ext fun x μ1 => ?_
  cases lstE x μ1 <;> first | exact w_ok | exact w_no
theorem v_all : WpE (allO [.v (.lst ps)] μ) Q X = optK (blsOf ps) fun bs => Q (.v (.bl (bs.all id))) μ := by
  unfold allO blsO
  show WpE (match blsOf ps with | some bs => .ok (.v (.bl (bs.all id))) μ | none => .no) Q X = _
  cases blsOf ps <;> first | exact w_ok | exact w_no
theorem v_any : WpE (anyO [.v (.lst ps)] μ) Q X = optK (blsOf ps) fun bs => Q (.v (.bl (bs.any id))) μ := by
  unfold anyO blsO
  show WpE (match blsOf ps with | some bs => .ok (.v (.bl (bs.any id))) μ | none => .no) Q X = _
  cases blsOf ps <;> first | exact w_ok | exact w_no
theorem blsOf_map {α : Type} (f : α → Bool) (xs : List α) : blsOf (xs.map fun x => PV.bl (f x)) = some (xs.map f) := by
  induction xs with
  | nil => exact (Eq.trans rfl rfl)
  | cons x r ih => simp [blsOf, ih]
theorem v_in2 : WpE (inO x y μ) Q X = optK (inB x y μ) fun b => Q (.v (.bl b)) μ := by
  unfold inO
  cases inB x y μ <;> first | exact w_ok | exact w_no
theorem v_notIn2 : WpE (notInO x y μ) Q X = optK (inB x y μ) fun b => Q (.v (.bl (!b))) μ := by
  unfold notInO
  cases inB x y μ <;> first | exact w_ok | exact w_no
theorem v_eq2 : WpE (eqO (.v p) (.v q) μ) Q X = optK (eqB p q) fun b => Q (.v (.bl b)) μ := by
  unfold eqO
  show WpE (match eqB p q with | some r => .ok (.v (.bl r)) μ | none => .no) Q X = _
  cases eqB p q <;> first | exact w_ok | exact w_no
theorem v_ne2 : WpE (neO (.v p) (.v q) μ) Q X = optK (eqB p q) fun b => Q (.v (.bl (!b))) μ := by
  unfold neO
  show WpE (match eqB p q with | some r => .ok (.v (.bl (!r))) μ | none => .no) Q X = _
  cases eqB p q <;> first | exact w_ok | exact w_no
theorem w_starC {m : Nat} {xs : List EV} : WpE (starC m cl xs μ) Q X = optK (pvs (xs.drop m)) fun ps => (ps.length ≤ sizeLine ∧ m ≤ xs.length) ∧ evK (xs.take m ++ [.v (.tup ps)]) fun es => WpE (cl es μ) Q X := by
  unfold starC evK
  cases pvs (xs.drop m) with
  | none => exact w_no
  | some ps =>
    show WpE (if ps.length ≤ sizeLine ∧ m ≤ xs.length then _ else .no) Q X = _
    rw [optK_some]
    by_cases h : ps.length ≤ sizeLine ∧ m ≤ xs.length
    · rw [if_pos h]; exact propext ⟨fun q => ⟨h, q⟩, fun q => q.2⟩
    · rw [if_neg h, w_no]; exact propext ⟨fun q => q.elim, fun q => (h q.1).elim⟩
theorem isB_NoneType_int : isB cs (.b "NoneType") (.ty "int") = some false := (Eq.trans rfl rfl)
theorem isB_NoneType_bool : isB cs (.b "NoneType") (.ty "bool") = some false := (Eq.trans rfl rfl)
theorem isB_NoneType_str : isB cs (.b "NoneType") (.ty "str") = some false := (Eq.trans rfl rfl)
theorem isB_NoneType_tuple : isB cs (.b "NoneType") (.ty "tuple") = some false := (Eq.trans rfl rfl)
theorem isB_NoneType_list : isB cs (.b "NoneType") (.ty "list") = some false := (Eq.trans rfl rfl)
theorem isB_NoneType_dict : isB cs (.b "NoneType") (.ty "dict") = some false := (Eq.trans rfl rfl)
theorem isB_int_int : isB cs (.b "int") (.ty "int") = some true := (Eq.trans rfl rfl)
theorem isB_int_bool : isB cs (.b "int") (.ty "bool") = some false := (Eq.trans rfl rfl)
theorem isB_int_str : isB cs (.b "int") (.ty "str") = some false := (Eq.trans rfl rfl)
theorem isB_int_tuple : isB cs (.b "int") (.ty "tuple") = some false := (Eq.trans rfl rfl)
theorem isB_int_list : isB cs (.b "int") (.ty "list") = some false := (Eq.trans rfl rfl)
theorem isB_int_dict : isB cs (.b "int") (.ty "dict") = some false := (Eq.trans rfl rfl)
theorem isB_bool_int : isB cs (.b "bool") (.ty "int") = some true := (Eq.trans rfl rfl)
theorem isB_bool_bool : isB cs (.b "bool") (.ty "bool") = some true := (Eq.trans rfl rfl)
theorem isB_bool_str : isB cs (.b "bool") (.ty "str") = some false := (Eq.trans rfl rfl)
theorem isB_bool_tuple : isB cs (.b "bool") (.ty "tuple") = some false := (Eq.trans rfl rfl)
theorem isB_bool_list : isB cs (.b "bool") (.ty "list") = some false := (Eq.trans rfl rfl)
theorem isB_bool_dict : isB cs (.b "bool") (.ty "dict") = some false := (Eq.trans rfl rfl)
theorem isB_str_int : isB cs (.b "str") (.ty "int") = some false := (Eq.trans rfl rfl)
theorem isB_str_bool : isB cs (.b "str") (.ty "bool") = some false := (Eq.trans rfl rfl)
theorem isB_str_str : isB cs (.b "str") (.ty "str") = some true := (Eq.trans rfl rfl)
theorem isB_str_tuple : isB cs (.b "str") (.ty "tuple") = some false := (Eq.trans rfl rfl)
theorem isB_str_list : isB cs (.b "str") (.ty "list") = some false := (Eq.trans rfl rfl)
theorem isB_str_dict : isB cs (.b "str") (.ty "dict") = some false := (Eq.trans rfl rfl)
theorem isB_tuple_int : isB cs (.b "tuple") (.ty "int") = some false := (Eq.trans rfl rfl)
theorem isB_tuple_bool : isB cs (.b "tuple") (.ty "bool") = some false := (Eq.trans rfl rfl)
theorem isB_tuple_str : isB cs (.b "tuple") (.ty "str") = some false := (Eq.trans rfl rfl)
theorem isB_tuple_tuple : isB cs (.b "tuple") (.ty "tuple") = some true := (Eq.trans rfl rfl)
theorem isB_tuple_list : isB cs (.b "tuple") (.ty "list") = some false := (Eq.trans rfl rfl)
theorem isB_tuple_dict : isB cs (.b "tuple") (.ty "dict") = some false := (Eq.trans rfl rfl)
theorem isB_list_int : isB cs (.b "list") (.ty "int") = some false := (Eq.trans rfl rfl)
theorem isB_list_bool : isB cs (.b "list") (.ty "bool") = some false := (Eq.trans rfl rfl)
theorem isB_list_str : isB cs (.b "list") (.ty "str") = some false := (Eq.trans rfl rfl)
theorem isB_list_tuple : isB cs (.b "list") (.ty "tuple") = some false := (Eq.trans rfl rfl)
theorem isB_list_list : isB cs (.b "list") (.ty "list") = some true := (Eq.trans rfl rfl)
theorem isB_list_dict : isB cs (.b "list") (.ty "dict") = some false := (Eq.trans rfl rfl)
theorem isB_dict_int : isB cs (.b "dict") (.ty "int") = some false := (Eq.trans rfl rfl)
theorem isB_dict_bool : isB cs (.b "dict") (.ty "bool") = some false := (Eq.trans rfl rfl)
theorem isB_dict_str : isB cs (.b "dict") (.ty "str") = some false := (Eq.trans rfl rfl)
theorem isB_dict_tuple : isB cs (.b "dict") (.ty "tuple") = some false := (Eq.trans rfl rfl)
theorem isB_dict_list : isB cs (.b "dict") (.ty "list") = some false := (Eq.trans rfl rfl)
theorem isB_dict_dict : isB cs (.b "dict") (.ty "dict") = some true := (Eq.trans rfl rfl)
theorem valsE_nil : valsE [] = [] := (Eq.trans rfl rfl)
theorem valsE_v {r : Env} : valsE (some (.v p) :: r) = some (.v p) :: valsE r := (Eq.trans rfl rfl)
theorem valsE_c {k : Nat} {r : Env} : valsE (some (.c k) :: r) = none :: valsE r := (Eq.trans rfl rfl)
theorem valsE_n {r : Env} : valsE (none :: r) = none :: valsE r := (Eq.trans rfl rfl)
def valK (x : EV) (k : PV → Prop) [Tag k] : Prop := match x with
  | .v p => k p
  | .c _ => False
theorem valK_eq {k : PV → Prop} : valK (.v p) k = k p := by unfold valK; exact propext Iff.rfl
theorem w_scope : WpE (scopeM fe ρ μ) Q X = evK (valsE ρ) fun ρ' => WpE (fe ρ' []) (fun r _ => valK r fun p => Q (.v p) μ) (fun c ns vs _ => X c ns vs μ) := by
  rw [evK_eq]
  unfold scopeM
  cases fe (valsE ρ) [] with
  | no => exact propext Iff.rfl
  | exc c ns vs μ' => exact propext Iff.rfl
  | ok r μ' => cases r <;> exact propext Iff.rfl
theorem startE_eq {m : Nat} {xs : List EV} : startE m xs = xs.map some ++ List.replicate (m - xs.length) none := (Eq.trans rfl rfl)
end
end P

set_option Elab.async false
set_option linter.all false
set_option maxRecDepth 100000
set_option maxHeartbeats 4000000
/-! Loops, comprehensions, calls: what they end in. -/
namespace P
open PySem PySem.Spec L2 G
abbrev noX : XQ := fun _ _ _ _ => False
def turnI (J : Env → Sto → Prop) (S : So → Prop) (m : So) : Prop := match m with
  | .nx ρ μ => J ρ μ
  | .ct ρ μ => J ρ μ
  | .bk ρ μ => S (.nx ρ μ)
  | m => S m
section
variable {S : So → Prop} {J : Env → Sto → Prop} {ρ : Env} {μ : Sto} {x : EV} {c : Str} {ns : List Str} {vs : List PV}
theorem turnI_nx : turnI J S (.nx ρ μ) = J ρ μ := by unfold turnI; exact propext Iff.rfl
theorem turnI_ct : turnI J S (.ct ρ μ) = J ρ μ := by unfold turnI; exact propext Iff.rfl
theorem turnI_bk : turnI J S (.bk ρ μ) = S (.nx ρ μ) := by unfold turnI; exact propext Iff.rfl
theorem turnI_rt : turnI J S (.rt x μ) = S (.rt x μ) := by unfold turnI; exact propext Iff.rfl
theorem turnI_exc : turnI J S (.exc c ns vs μ) = S (.exc c ns vs μ) := by unfold turnI; exact propext Iff.rfl
end
theorem WpS.mono {m : So} {S S' : So → Prop} (h : WpS m S) (k : ∀ z, S z → S' z) : WpS m S' := by
  cases m with
  | no => exact h
  | _ => exact k _ h
theorem WpE.mono {α : Type} {m : Ro α} {Q Q' : α → Sto → Prop} {X X' : XQ} (h : WpE m Q X) (k : ∀ a μ, Q a μ → Q' a μ) (kx : ∀ c ns vs μ, X c ns vs μ → X' c ns vs μ) : WpE m Q' X' := by
  cases m with
  | no => exact h
  | ok a μ => exact k _ _ h
  | exc c ns vs μ => exact kx _ _ _ _ h
theorem turn_of {J : Env → Sto → Prop} {S : So → Prop} {again : FS} (k : ∀ ρ μ, J ρ μ → WpS (again ρ μ) S) : ∀ z, turnI J S z → turnK again S z := by
  intro z h
  cases z with
  | nx ρ μ => exact k ρ μ h
  | ct ρ μ => exact k ρ μ h
  | bk ρ μ => exact h
  | rt r μ => exact h
  | exc c ns vs μ => exact h
  | no => exact h
/-- a loop over things told by a list: the invariant speaks of those that are left -/
theorem loop_list {α : Type} {g : FG} {bd : FS} {S : So → Prop} (f : α → EV) (I : List α → Env → Sto → Prop)
    (step : ∀ a r ρ μ, I (a :: r) ρ μ → WpE (g (f a) ρ μ) (fun ρ1 μ1 => WpS (bd ρ1 μ1) (turnI (I r) S)) (xS S))
    (done : ∀ ρ μ, I [] ρ μ → S (.nx ρ μ)) : ∀ (as : List α) (ρ : Env) (μ : Sto), I as ρ μ → WpS (loopS g bd (as.map f) ρ μ) S
  | [], ρ, μ, h => by rw [List.map_nil, s_loop0]; exact done _ _ h
  | a :: r, ρ, μ, h => by
    rw [List.map_cons, s_loop1]
    exact (step a r ρ μ h).mono (fun ρ1 μ1 z => WpS.mono z (turn_of fun ρ μ h => loop_list f I step done r ρ μ h)) (fun _ _ _ _ z => z)
/-- the same by the number of turns that are done -/
theorem loop_nat {g : FG} {bd : FS} {S : So → Prop} {xs : List EV} (I : Nat → Env → Sto → Prop)
    (step : ∀ i x ρ μ, xs[i]? = some x → I i ρ μ → WpE (g x ρ μ) (fun ρ1 μ1 => WpS (bd ρ1 μ1) (turnI (I (i + 1)) S)) (xS S))
    (done : ∀ ρ μ, I xs.length ρ μ → S (.nx ρ μ)) {ρ : Env} {μ : Sto} (h0 : I 0 ρ μ) : WpS (loopS g bd xs ρ μ) S := by
  suffices H : ∀ (ys : List EV) (i : Nat) (ρ : Env) (μ : Sto), (∀ j, ys[j]? = xs[i + j]?) → i + ys.length = xs.length → I i ρ μ → WpS (loopS g bd ys ρ μ) S from H xs 0 ρ μ (fun j => by rw [Nat.zero_add]) (by omega) h0
  intro ys
  induction ys with
  | nil => intro i ρ μ _ e h; rw [s_loop0]; refine done _ _ ?_; rw [← e]; exact h
  | cons a r ih =>
    intro i ρ μ hy e h
    rw [s_loop1]
    refine (step i a ρ μ (by have := hy 0; simpa using this.symm) h).mono (fun ρ1 μ1 z => WpS.mono z (turn_of fun ρ μ h => ih (i + 1) ρ μ (fun j => ?_) (by rw [← e, List.length_cons]; omega) h)) (fun _ _ _ _ z => z)
    have := hy (j + 1)
    rw [List.getElem?_cons_succ] at this
    rw [this, show i + (j + 1) = i + 1 + j by omega]
/-- over range(n) -/
theorem loop_rng {g : FG} {bd : FS} {S : So → Prop} (n : Nat) (I : Nat → Env → Sto → Prop)
    (step : ∀ i ρ μ, i < n → I i ρ μ → WpE (g (.v (.int i)) ρ μ) (fun ρ1 μ1 => WpS (bd ρ1 μ1) (turnI (I (i + 1)) S)) (xS S))
    (done : ∀ ρ μ, I n ρ μ → S (.nx ρ μ)) {ρ : Env} {μ : Sto} (h0 : I 0 ρ μ) : WpS (loopS g bd (intsFrom 0 n) ρ μ) S := by
  refine loop_nat I (fun i x ρ μ hx h => ?_) (fun ρ μ h => done ρ μ (by rw [intsFrom_length] at h; exact h)) h0
  obtain ⟨h1, rfl⟩ := intsFrom_get 0 n i x hx
  rw [Int.zero_add]
  exact step i ρ μ h1 h
/-- while: the measure is below the fuel -/
theorem wh_inv {ft : FT} {bd : FS} {S : So → Prop} (I : Nat → Env → Sto → Prop)
    (step : ∀ m ρ μ, I m ρ μ → WpE (ft ρ μ) (fun c μ1 => WpS (if c then bd ρ μ1 else .bk ρ μ1) (turnI (fun ρ' μ' => ∃ m', m' < m ∧ I m' ρ' μ') S)) (xS S)) :
    ∀ (n m : Nat) (ρ : Env) (μ : Sto), m < n → I m ρ μ → WpS (whS ft bd n ρ μ) S
  | 0, _, _, _, h, _ => absurd h (by omega)
  | n + 1, m, ρ, μ, h, hI => by
    rw [s_wh]
    refine (step m ρ μ hI).mono (fun c μ1 z => ?_) (fun _ _ _ _ z => z)
    cases c with
    | true =>
      rw [if_pos rfl] at z ⊢
      rw [s_turnm]
      exact WpS.mono z (turn_of fun ρ' μ' ⟨m', h1, h2⟩ => wh_inv I step n m' ρ' μ' (by omega) h2)
    | false =>
      rw [if_neg (by decide)] at z ⊢
      rw [s_bk, turnI_bk] at z
      rw [s_nx]
      exact z
/-- a comprehension over things told by a list, none of which changes the store -/
theorem lc_list {α : Type} {g : FG} {tt : FT} {te : FE} {ρ0 : Env} {μ : Sto} {Q : List PV → Sto → Prop} {X : XQ} (f : α → EV) (p : α → Bool) (h : α → PV) : ∀ (as : List α) (acc : List PV),
    (∀ a ∈ as, WpE (g (f a) ρ0 μ) (fun ρ1 μ1 => WpE (tt ρ1 μ1) (fun b μ2 => b = p a ∧ if b then WpE (te ρ1 μ2) (fun y μ3 => y = .v (h a) ∧ μ3 = μ) noX else μ2 = μ) noX) noX) →
    acc.length + as.length ≤ sizeLine → Q (acc ++ (as.filter p).map h) μ → WpE (lcGo g tt te ρ0 (as.map f) acc μ) Q X
  | [], acc, _, _, q => by
    show Q acc μ
    simpa using q
  | a :: r, acc, k, hl, q => by
    rw [List.map_cons]
    unfold lcGo
    rw [w_bind]
    refine (k a List.mem_cons_self).mono (fun ρ1 μ1 z => ?_) (fun _ _ _ _ z => z.elim)
    rw [w_bind]
    refine WpE.mono z (fun b μ2 z => ?_) (fun _ _ _ _ z => z.elim)
    obtain ⟨rfl, z⟩ := z
    cases hb : p a with
    | true =>
      rw [hb] at z
      rw [if_pos rfl] at z ⊢
      rw [w_bind]
      refine WpE.mono z (fun y μ3 z => ?_) (fun _ _ _ _ z => z.elim)
      obtain ⟨rfl, rfl⟩ := z
      show WpE (if _ then _ else _) Q X
      rw [List.length_cons] at hl
      rw [if_pos (by omega)]
      refine lc_list f p h r (acc ++ [h a]) (fun b hb => k b (List.mem_cons_of_mem _ hb)) (by rw [List.length_append, List.length_singleton]; omega) ?_
      rw [List.filter_cons, hb, if_pos rfl, List.map_cons] at q
      rw [List.append_assoc]
      exact q
    | false =>
      rw [hb] at z
      rw [if_neg (by decide)] at z ⊢
      subst z
      rw [List.length_cons] at hl
      refine lc_list f p h r acc (fun b hb => k b (List.mem_cons_of_mem _ hb)) (by omega) ?_
      rw [List.filter_cons, hb, if_neg (by decide)] at q
      exact q
/-- the same without a test -/
theorem lc_map {α : Type} {g : FG} {te : FE} {ρ0 : Env} {μ : Sto} {Q : List PV → Sto → Prop} {X : XQ} (f : α → EV) (h : α → PV) (as : List α)
    (k : ∀ a ∈ as, WpE (g (f a) ρ0 μ) (fun ρ1 μ1 => WpE (te ρ1 μ1) (fun y μ3 => y = .v (h a) ∧ μ3 = μ) noX) noX)
    (hl : as.length ≤ sizeLine) (q : Q (as.map h) μ) : WpE (lcGo g tyesM te ρ0 (as.map f) [] μ) Q X := by
  refine lc_list f (fun _ => true) h as [] (fun a ha => (k a ha).mono (fun ρ1 μ1 z => ?_) (fun _ _ _ _ z => z)) (by simpa using hl) (by rw [List.filter_eq_self.mpr (fun _ _ => rfl), List.nil_append]; exact q)
  rw [w_tyesM]
  exact ⟨rfl, z⟩
/-- a comprehension whose turns change the store: an invariant -/
theorem lc_inv {g : FG} {tt : FT} {te : FE} {ρ0 : Env} {Q : List PV → Sto → Prop} {X : XQ} {α : Type} (f : α → EV) (I : List α → List PV → Sto → Prop)
    (step : ∀ a r acc μ, I (a :: r) acc μ → WpE (g (f a) ρ0 μ) (fun ρ1 μ1 => WpE (tt ρ1 μ1) (fun b μ2 => if b then WpE (te ρ1 μ2) (fun y μ3 => ∃ p, y = .v p ∧ acc.length < sizeLine ∧ I r (acc ++ [p]) μ3) X else I r acc μ2) X) X)
    (done : ∀ acc μ, I [] acc μ → Q acc μ) : ∀ (as : List α) (acc : List PV) (μ : Sto), I as acc μ → WpE (lcGo g tt te ρ0 (as.map f) acc μ) Q X
  | [], acc, μ, h => done _ _ h
  | a :: r, acc, μ, h => by
    rw [List.map_cons]
    unfold lcGo
    rw [w_bind]
    refine (step a r acc μ h).mono (fun ρ1 μ1 z => ?_) (fun _ _ _ _ z => z)
    rw [w_bind]
    refine WpE.mono z (fun b μ2 z => ?_) (fun _ _ _ _ z => z)
    cases b with
    | true =>
      rw [if_pos rfl] at z ⊢
      rw [w_bind]
      refine WpE.mono z (fun y μ3 ⟨p, e, hl, z⟩ => ?_) (fun _ _ _ _ z => z)
      subst e
      show WpE (if _ then _ else _) Q X
      rw [if_pos hl]
      exact lc_inv f I step done r _ _ z
    | false =>
      rw [if_neg (by decide)] at z ⊢
      exact lc_inv f I step done r _ _ z
theorem intsFrom_map (n : Nat) : ∀ lo : Int, intsFrom lo n = (List.range n).map fun (i : Nat) => EV.v (.int (lo + i)) := by
  induction n with
  | zero => intro lo; rfl
  | succ n ih =>
    intro lo
    rw [List.range_succ_eq_map]
    unfold intsFrom
    rw [ih, List.map_cons, List.map_map]
    congr 1
    · simp
    · apply List.map_congr_left
      intro a _
      simp
      omega
theorem intsFrom_map0 (n : Nat) : intsFrom 0 n = (List.range n).map fun (i : Nat) => EV.v (.int i) := by
  rw [intsFrom_map]
  simp
/-! ### calls -/
theorem pvs_map (ps : List PV) : pvs (ps.map EV.v) = some ps := by
  induction ps with
  | nil => rfl
  | cons p r ih => simp [pvs, ih]
/-- a call with values alone -/
theorem call_v {cl : FC} {n : Nat} {xs : List EV} {ps : List PV} {μ : Sto} {Q : EV → Sto → Prop} {X : XQ} (hx : xs = ps.map EV.v) (hn : ps.length = n)
    (h : WpE (cl xs []) (fun r _ => ∃ p, r = .v p ∧ Q (.v p) μ) (fun c ns vs _ => X c ns vs μ)) : WpE (callS cl n xs μ) Q X := by
  subst hx
  unfold callS
  rw [if_pos (by rw [List.length_map]; exact hn), pvs_map]
  revert h
  show WpE (cl (ps.map EV.v) []) _ _ → WpE (match cl (ps.map EV.v) [] with | .ok (.v p) _ => Ro.ok (EV.v p) μ | .exc c ns vs _ => .exc c ns vs μ | _ => .no) Q X
  cases cl (ps.map EV.v) [] with
  | no => exact fun h => h.elim
  | exc c ns vs μ' => exact fun h => h
  | ok r μ' =>
    rintro ⟨p, rfl, h⟩
    exact h
/-- a call with a thing of the store, then values -/
theorem call_c {cl : FC} {n k : Nat} {x : Cell} {xs : List EV} {ps : List PV} {μ : Sto} {Q : EV → Sto → Prop} {X : XQ} (hx : xs = .c k :: ps.map EV.v) (hn : ps.length + 1 = n) (hk : μ[k]? = some x) (hf : flatC x = true)
    (h : WpE (cl (.c 0 :: ps.map EV.v) [x]) (fun r μ' => ∃ p y rest, r = .v p ∧ μ' = y :: rest ∧ flatC y = true ∧ Q (.v p) (μ.set k y)) (fun c ns vs μ' => ∃ y rest, μ' = y :: rest ∧ flatC y = true ∧ X c ns vs (μ.set k y))) : WpE (callS cl n xs μ) Q X := by
  subst hx
  unfold callS
  have e : pvs (.c k :: ps.map EV.v) = none := by simp [pvs]
  rw [if_pos (by simpa using hn), e]
  simp only [pvs_map, hk, hf, if_true]
  revert h
  cases cl (.c 0 :: ps.map EV.v) [x] with
  | no => exact fun h => h.elim
  | exc c ns vs μ' =>
    rintro ⟨y, rest, rfl, hy, h⟩
    simp only [hy, if_true]
    exact h
  | ok r μ' =>
    rintro ⟨p, y, rest, rfl, rfl, hy, h⟩
    simp only [hy, if_true]
    exact h
/-- values made: what __init__ leaves -/
theorem make_s {c : Str} {cl : FC} {xs : List EV} {ps : List PV} {μ : Sto} {Q : EV → Sto → Prop} {X : XQ} (hx : xs = ps.map EV.v)
    (h : WpE (cl (.c 0 :: xs) [.ins c [] []]) (fun r μ' => ∃ ns qs rest, r = .v .non ∧ μ' = .ins c ns (qs.map EV.v) :: rest ∧ Q (.v (.ins c ns qs)) μ) (fun c ns vs _ => X c ns vs μ)) : WpE (makeS c cl xs μ) Q X := by
  subst hx
  unfold makeS
  rw [pvs_map]
  revert h
  show WpE (cl (.c 0 :: ps.map EV.v) [.ins c [] []]) _ _ → WpE (match cl (.c 0 :: ps.map EV.v) [.ins c [] []] with | .ok (.v .non) (.ins c' ns vs :: _) => (match pvs vs with | some ps => if c' = c then .ok (.v (.ins c ns ps)) μ else .no | none => .no) | .exc c ns vs _ => .exc c ns vs μ | _ => .no) Q X
  cases cl (.c 0 :: ps.map EV.v) [.ins c [] []] with
  | no => exact fun h => h.elim
  | exc c ns vs μ' => exact fun h => h
  | ok r μ' =>
    rintro ⟨ns, qs, rest, rfl, rfl, h⟩
    show WpE (match pvs (qs.map EV.v) with | some ps => if c = c then .ok (.v (.ins c ns ps)) μ else .no | none => .no) Q X
    rw [pvs_map]
    show WpE (if c = c then .ok (.v (.ins c ns qs)) μ else .no) Q X
    rw [if_pos rfl]
    exact h
theorem WpE.eq {α : Type} {m : Ro α} {a : α} {μ : Sto} {Q : α → Sto → Prop} {X : XQ} (h : m = .ok a μ) (q : Q a μ) : WpE m Q X := by rw [h]; exact q
theorem of_wp {α : Type} {m : Ro α} {a : α} {μ : Sto} (h : WpE m (fun b ν => b = a ∧ ν = μ) noX) : m = .ok a μ := by
  cases m with
  | no => exact h.elim
  | exc c ns vs μ' => exact h.elim
  | ok b ν => obtain ⟨rfl, rfl⟩ := h; rfl
end P

set_option Elab.async false
set_option linter.all false
set_option maxRecDepth 100000
set_option maxHeartbeats 4000000
/-! == of values without bools, in. -/
namespace P
open PySem PySem.Spec L2 G
def sOk (s : Str) : Bool := s.cps.toList.all fun c => decide (c < 0x110000)
theorem sOk_eq {s : Str} : PyData.strOk s = sOk s := by
  unfold PyData.strOk sOk
  rw [← Array.all_toList]
mutual
/-- no bools, no dicts, no own things; every text has signs -/
def pclean : PV → Bool
  | .non => true
  | .int _ => true
  | .str s => sOk s
  | .tup xs => pcleanA xs
  | .lst xs => pcleanA xs
  | _ => false
def pcleanA : List PV → Bool
  | [] => true
  | x :: xs => pclean x && pcleanA xs
end
mutual
def pdeep : PV → Nat
  | .tup xs => pdeepA xs + 1
  | .lst xs => pdeepA xs + 1
  | _ => 0
def pdeepA : List PV → Nat
  | [] => 0
  | x :: xs => max (pdeep x) (pdeepA xs)
end
mutual
theorem dat_clean : ∀ p : PV, pclean p = true → ∃ d, datOf p = some d ∧ d.canLay0 = true ∧ d.depth = pdeep p
  | .non, _ => ⟨_, rfl, by simp [PyData.canLay0], by simp [PyData.depth, pdeep]⟩
  | .int i, _ => ⟨_, rfl, by simp [PyData.canLay0], by simp [PyData.depth, pdeep]⟩
  | .str s, h => ⟨_, rfl, by rw [PyData.canLay0, sOk_eq]; simpa [pclean] using h, by simp [PyData.depth, pdeep]⟩
  | .tup xs, h => by
    obtain ⟨ds, h1, h2, h3⟩ := dat_cleanA xs (by simpa [pclean] using h)
    exact ⟨.tuple ds, by simp [datOf, h1], by simpa [PyData.canLay0] using h2, by simp [PyData.depth, pdeep, h3]⟩
  | .lst xs, h => by
    obtain ⟨ds, h1, h2, h3⟩ := dat_cleanA xs (by simpa [pclean] using h)
    exact ⟨.list ds, by simp [datOf, h1], by simpa [PyData.canLay0] using h2, by simp [PyData.depth, pdeep, h3]⟩
  | .bl _, h | .frl _, h | .dct _ _, h | .ins _ _ _, h | .ty _, h | .cls _, h => by simp [pclean] at h
theorem dat_cleanA : ∀ ps : List PV, pcleanA ps = true → ∃ ds, datAll ps = some ds ∧ PyData.canLayAll0 ds = true ∧ PyData.depthAll ds = pdeepA ps
  | [], _ => ⟨[], rfl, by simp [PyData.canLayAll0], by simp [PyData.depthAll, pdeepA]⟩
  | p :: r, h => by
    simp only [pcleanA, Bool.and_eq_true] at h
    obtain ⟨d, h1, h2, h3⟩ := dat_clean p h.1
    obtain ⟨ds, g1, g2, g3⟩ := dat_cleanA r h.2
    exact ⟨d :: ds, by simp [datAll, h1, g1], by simp [PyData.canLayAll0, h2, g2], by simp [PyData.depthAll, pdeepA, h3, g3]⟩
end
mutual
theorem eqv_clean : ∀ (p q : PV) (d e : PyData), pclean p = true → pclean q = true → datOf p = some d → datOf q = some e → (PyData.eqv d e = true ↔ p = q)
  | .non, q, d, e, _, hq, h1, h2 => by
    cases h1
    cases q <;> simp [pclean, datOf] at hq h2 <;> first | (subst h2; simp [PyData.eqv]) | (obtain ⟨_, _, rfl⟩ := h2; simp [PyData.eqv])
  | .int i, q, d, e, _, hq, h1, h2 => by
    cases h1
    cases q <;> simp [pclean, datOf] at hq h2 <;> first | (subst h2; simp [PyData.eqv]) | (obtain ⟨_, _, rfl⟩ := h2; simp [PyData.eqv])
  | .str s, q, d, e, _, hq, h1, h2 => by
    cases h1
    cases q <;> simp [pclean, datOf] at hq h2 <;> first | (subst h2; simp [PyData.eqv]) | (obtain ⟨_, _, rfl⟩ := h2; simp [PyData.eqv])
  | .tup xs, q, d, e, hp, hq, h1, h2 => by
    simp only [datOf, Option.map_eq_some_iff] at h1
    obtain ⟨ds, h1, rfl⟩ := h1
    cases q with
    | tup ys =>
      simp only [datOf, Option.map_eq_some_iff] at h2
      obtain ⟨es, h2, rfl⟩ := h2
      rw [show PyData.eqv (.tuple ds) (.tuple es) = PyData.eqvAll ds es by simp [PyData.eqv], eqv_cleanA xs ys ds es (by simpa [pclean] using hp) (by simpa [pclean] using hq) h1 h2]
      simp
    | lst ys =>
      simp only [datOf, Option.map_eq_some_iff] at h2
      obtain ⟨es, h2, rfl⟩ := h2
      simp [PyData.eqv]
    | non => cases h2; simp [PyData.eqv]
    | int i => cases h2; simp [PyData.eqv]
    | str s => cases h2; simp [PyData.eqv]
    | _ => simp [pclean] at hq
  | .lst xs, q, d, e, hp, hq, h1, h2 => by
    simp only [datOf, Option.map_eq_some_iff] at h1
    obtain ⟨ds, h1, rfl⟩ := h1
    cases q with
    | lst ys =>
      simp only [datOf, Option.map_eq_some_iff] at h2
      obtain ⟨es, h2, rfl⟩ := h2
      rw [show PyData.eqv (.list ds) (.list es) = PyData.eqvAll ds es by simp [PyData.eqv], eqv_cleanA xs ys ds es (by simpa [pclean] using hp) (by simpa [pclean] using hq) h1 h2]
      simp
    | tup ys =>
      simp only [datOf, Option.map_eq_some_iff] at h2
      obtain ⟨es, h2, rfl⟩ := h2
      simp [PyData.eqv]
    | non => cases h2; simp [PyData.eqv]
    | int i => cases h2; simp [PyData.eqv]
    | str s => cases h2; simp [PyData.eqv]
    | _ => simp [pclean] at hq
  | .bl _, _, _, _, h, _, _, _ | .frl _, _, _, _, h, _, _, _ | .dct _ _, _, _, _, h, _, _, _ | .ins _ _ _, _, _, _, h, _, _, _ | .ty _, _, _, _, h, _, _, _ | .cls _, _, _, _, h, _, _, _ => by simp [pclean] at h
theorem eqv_cleanA : ∀ (ps qs : List PV) (ds es : List PyData), pcleanA ps = true → pcleanA qs = true → datAll ps = some ds → datAll qs = some es → (PyData.eqvAll ds es = true ↔ ps = qs)
  | [], [], ds, es, _, _, h1, h2 => by cases h1; cases h2; simp [PyData.eqvAll]
  | [], q :: qs, ds, es, _, _, h1, h2 => by
    cases h1
    unfold datAll at h2
    split at h2
    · cases h2; simp [PyData.eqvAll]
    · cases h2
  | p :: ps, [], ds, es, _, _, h1, h2 => by
    cases h2
    unfold datAll at h1
    split at h1
    · cases h1; simp [PyData.eqvAll]
    · cases h1
  | p :: ps, q :: qs, ds, es, hp, hq, h1, h2 => by
    simp only [pcleanA, Bool.and_eq_true] at hp hq
    unfold datAll at h1 h2
    split at h1
    · rename_i d ds' e1 e2
      cases h1
      split at h2
      · rename_i e es' f1 f2
        cases h2
        rw [show PyData.eqvAll (d :: ds') (e :: es') = (PyData.eqv d e && PyData.eqvAll ds' es') by simp [PyData.eqvAll], Bool.and_eq_true, eqv_clean p q d e hp.1 hq.1 e1 f1, eqv_cleanA ps qs ds' es' hp.2 hq.2 e2 f2]
        simp
      · cases h2
    · cases h1
end
/-- == of two such values -/
theorem eqB_clean {p q : PV} (hp : pclean p = true) (hq : pclean q = true) (dp : pdeep p ≤ 64) (dq : pdeep q ≤ 64) : ∃ b, eqB p q = some b ∧ (b = true ↔ p = q) := by
  obtain ⟨d, h1, h2, h3⟩ := dat_clean p hp
  obtain ⟨e, g1, g2, g3⟩ := dat_clean q hq
  have k : (if SeqAt.shaped d && SeqAt.shaped e then some (PyData.eqv d e) else none) = some (PyData.eqv d e) := by
    unfold SeqAt.shaped
    rw [h2, g2, h3, g3, decide_eq_true dp, decide_eq_true dq]
    rfl
  have gen : (∀ a b, p = .int a → q = .int b → False) → (∀ a b, p = .str a → q = .str b → False) → eqB p q = some (PyData.eqv d e) := by
    intro n1 n2
    unfold eqB
    split
    · exact (n1 _ _ rfl rfl).elim
    · exact (n2 _ _ rfl rfl).elim
    · rw [h1, g1]
      exact k
  by_cases c1 : ∃ a b, p = .int a ∧ q = .int b
  · obtain ⟨a, b, rfl, rfl⟩ := c1
    exact ⟨_, rfl, by simp⟩
  · by_cases c2 : ∃ a b, p = .str a ∧ q = .str b
    · obtain ⟨a, b, rfl, rfl⟩ := c2
      exact ⟨_, rfl, by simp⟩
    · exact ⟨_, gen (fun a b x y => c1 ⟨a, b, x, y⟩) (fun a b x y => c2 ⟨a, b, x, y⟩), eqv_clean p q d e hp hq h1 g1⟩
theorem eqB_self {p : PV} (hp : pclean p = true) (dp : pdeep p ≤ 64) : eqB p p = some true := by
  obtain ⟨b, h1, h2⟩ := eqB_clean hp hp dp dp
  rw [h1, h2.mpr rfl]
theorem eqB_ne {p q : PV} (hp : pclean p = true) (hq : pclean q = true) (dp : pdeep p ≤ 64) (dq : pdeep q ≤ 64) (h : p ≠ q) : eqB p q = some false := by
  obtain ⟨b, h1, h2⟩ := eqB_clean hp hq dp dq
  cases b with
  | false => exact h1
  | true => exact (h (h2.mp rfl)).elim
/-- in, over texts -/
theorem inB_strs {s : Str} {xs : List Str} {μ : Sto} : inB (.v (.str s)) (.v (.tup (xs.map PV.str))) μ = some (decide (s ∈ xs)) ∧ inB (.v (.str s)) (.v (.lst (xs.map PV.str))) μ = some (decide (s ∈ xs)) := by
  have h1 : (xs.map PV.str).all flatP = true := by simp [flatP]
  have h2 : inP (.str s) (xs.map PV.str) = decide (s ∈ xs) := by
    unfold inP
    rw [Bool.eq_iff_iff]
    simp only [List.any_eq_true, List.mem_map, decide_eq_true_eq]
    constructor
    · rintro ⟨_, ⟨y, hy, rfl⟩, e⟩
      simp only [eqP, beq_iff_eq] at e
      exact e ▸ hy
    · intro h
      exact ⟨_, ⟨s, h, rfl⟩, by simp [eqP]⟩
  constructor <;> (show (if flatP (.str s) && (xs.map PV.str).all flatP then some (inP (.str s) (xs.map PV.str)) else none) = _; rw [h1, h2]; rfl)
theorem inB_dct {s : Str} {ks : List Key} {vs : List PV} {μ : Sto} : inB (.v (.str s)) (.v (.dct ks vs)) μ = some (hasK (.inr s) ks) := (Eq.trans rfl rfl)
theorem hasK_iff {k : Key} {ks : List Key} : hasK k ks = true ↔ k ∈ ks := by
  unfold hasK
  simp only [List.any_eq_true, decide_eq_true_eq]
  constructor
  · rintro ⟨x, h, rfl⟩; exact h
  · intro h; exact ⟨_, h, rfl⟩
section
variable {a b i j : Int} {μ : Sto} {Q : EV → Sto → Prop} {L : List EV → Sto → Prop} {X : XQ} {S : So → Prop} {s t : Str} {ps qs : List PV} {p q : PV} {x y : EV} {ρ : Env} {fe fo : FE} {gs : FA} {ks : List Key} {vs : List PV}
section
variable {g : FG} {tt : FT} {te : FE} {ρ0 : Env} {acc : List PV} {M : List PV → Sto → Prop} {xs : List EV}
theorem w_lc0 : WpE (lcGo g tt te ρ0 [] acc μ) M X = M acc μ := by unfold lcGo; exact w_ok
theorem w_lc1 : WpE (lcGo g tt te ρ0 (x :: xs) acc μ) M X = WpE (g x ρ0 μ) (fun ρ1 μ1 => WpE (tt ρ1 μ1) (fun c μ2 => if c = true then WpE (te ρ1 μ2) (fun y μ3 => valK y fun p => acc.length < sizeLine ∧ evK (acc ++ [p]) fun acc' => WpE (lcGo g tt te ρ0 xs acc' μ3) M X) X else WpE (lcGo g tt te ρ0 xs acc μ2) M X) X) X := by
  rw [lcGo]
  rw [w_bind]
  refine WpE_ext fun ρ1 μ1 => ?_
  rw [w_bind]
  refine WpE_ext fun c μ2 => ?_
  cases c with
  | true =>
    rw [if_pos rfl, if_pos rfl, w_bind]
    refine WpE_ext fun y μ3 => ?_
    cases y with
    | v p =>
      rw [valK_eq]
      unfold evK
      show WpE (if _ then _ else _) M X = _
      by_cases h : acc.length < sizeLine
      · rw [if_pos h]; exact propext ⟨fun q => ⟨h, q⟩, fun q => q.2⟩
      · rw [if_neg h, w_no]; exact propext ⟨fun q => q.elim, fun q => (h q.1).elim⟩
    | c k => exact w_no
  | false => rw [if_neg (by decide), if_neg (by decide)]
end
theorem map_inj {α β : Type} {f : α → β} (h : ∀ a b, f a = f b → a = b) : ∀ {xs ys : List α}, xs.map f = ys.map f → xs = ys
  | [], [], _ => rfl
  | [], _ :: _, e => by simp at e
  | _ :: _, [], e => by simp at e
  | x :: xs, y :: ys, e => by
    simp only [List.map_cons, List.cons.injEq] at e
    rw [h _ _ e.1, map_inj h e.2]
theorem ofString_inj {a b : String} : (Str.ofString a = Str.ofString b) = (a = b) := by
  apply propext
  constructor
  · intro h
    rw [Str.ofString_eq_toList, Str.ofString_eq_toList] at h
    have h2 : (a.toList.map Char.toNat) = (b.toList.map Char.toNat) := by
      have := congrArg (fun z : Str => z.cps.toList) h
      simpa using this
    have h3 : a.toList = b.toList := map_inj (fun x y e => Char.toNat_inj.mp e) h2
    exact String.toList_inj.mp h3
  · rintro rfl; rfl
theorem eqB_int : eqB (.int a) (.int b) = some (decide (a = b)) := (Eq.trans rfl rfl)
theorem eqB_str : eqB (.str s) (.str t) = some (decide (s = t)) := (Eq.trans rfl rfl)
theorem wipeR_nil : wipeR ρ [] = ρ := (Eq.trans rfl rfl)
theorem wipeR_cons {v : Nat} {r : List Nat} : wipeR ρ (v :: r) = (wipeR ρ r).set v none := (Eq.trans rfl rfl)
theorem v_lenS : WpE (lenO [.v (.str s)] μ) Q X = (s.length ≤ sizeLine ∧ Q (.v (.int s.length)) μ) := by unfold lenO; exact w_guard
theorem v_lenC {k : Nat} : WpE (lenO [.c k] μ) Q X = lstK μ k fun ps => Q (.v (.int ps.length)) μ := by
  unfold lenO seqE lstK
  cases h : μ[k]? with
  | none => simp only [h]; exact w_no
  | some c => cases c <;> (simp only [h]; first | exact w_ok | exact w_no)
def strVK (x : EV) (k : Str → Prop) [Tag k] : Prop := match x with
  | .v (.str s) => k s
  | _ => False
theorem strVK_eq {k : Str → Prop} : strVK (.v (.str s)) k = k s := by unfold strVK; exact propext Iff.rfl
theorem w_itStrM : WpE (itStrM fe ρ μ) L X = WpE (fe ρ μ) (fun x μ1 => strVK x fun s => L (s.cps.toList.map fun c => EV.v (.str ⟨#[c]⟩)) μ1) X := by
  unfold itStrM
  rw [w_bind]
  refine WpE_ext fun x μ1 => ?_
  unfold strVK
  rcases x with p | k
  · cases p <;> first | exact w_ok | exact w_no
  · exact w_no
theorem dctE_d : dctE (.v (.dct ks vs)) μ = some (ks, vs) := (Eq.trans rfl rfl)
theorem dctE_t : dctE (.v (.tup ps)) μ = none := (Eq.trans rfl rfl)
theorem dctE_l : dctE (.v (.lst ps)) μ = none := (Eq.trans rfl rfl)
theorem dctE_f : dctE (.v (.frl ps)) μ = none := (Eq.trans rfl rfl)
theorem v_listT : WpE (listPO [.v (.tup ps)] μ) Q X = Q (.v (.lst ps)) μ := by unfold listPO listO; exact w_ok
theorem v_listL : WpE (listPO [.v (.lst ps)] μ) Q X = Q (.v (.lst ps)) μ := by unfold listPO listO; exact w_ok
theorem v_listD : WpE (listPO [.v (.dct ks vs)] μ) Q X = Q (.v (.lst (ks.map pvK))) μ := by unfold listPO; exact w_ok
theorem kstrs_map (xs : List Str) : kstrs (xs.map Sum.inr) = some xs := by
  induction xs with
  | nil => rfl
  | cons x r ih => simp [kstrs, ih]
theorem v_sortD {xs : List Str} : WpE (sortO [.v (.dct (xs.map Sum.inr) vs)] μ) Q X = (xs.length < 64 ∧ Q (.v (.lst ((sortS xs).map PV.str))) μ) := by
  show WpE (match kstrs (xs.map Sum.inr) with | some ss => if ss.length < 64 then .ok (.v (.lst ((sortS ss).map PV.str))) μ else .no | none => .no) Q X = _
  rw [kstrs_map]
  exact w_guard
theorem v_sortL {xs : List Str} : WpE (sortO [.v (.lst (xs.map PV.str))] μ) Q X = (xs.length < 64 ∧ Q (.v (.lst ((sortS xs).map PV.str))) μ) := by
  show WpE (match strsOf (xs.map PV.str) with | some ss => if ss.length < 64 then .ok (.v (.lst ((sortS ss).map PV.str))) μ else .no | none => _) Q X = _
  rw [strsOf_map]
  exact w_guard
theorem v_dictL : WpE (dictO [.v (.lst ps)] μ) Q X = optK (pairsOf ps) fun z => z.1.Nodup ∧ Q (.v (.dct z.1 z.2)) μ := by
  show WpE (match pairsOf ps with | some (ks, vs) => if ks.Nodup then .ok (.v (.dct ks vs)) μ else .no | none => .no) Q X = _
  cases pairsOf ps with
  | none => exact w_no
  | some z => exact w_guard
theorem v_dictD : WpE (dictO [.v (.dct ks vs)] μ) Q X = Q (.v (.dct ks vs)) μ := by unfold dictO; exact w_ok
def dzK (xs : List EV) (μ : Sto) (k : List Str → List PV → Prop) [Tag k] : Prop := match xs with
  | [x, .v (.tup qs)] => optK (lstE x μ) fun ps => optK (strsOf ps) fun ks => (ks.Nodup ∧ ks.length = qs.length) ∧ k ks qs
  | _ => False
theorem dzK_eq {k : List Str → List PV → Prop} : dzK [x, .v (.tup qs)] μ k = optK (lstE x μ) fun ps => optK (strsOf ps) fun ks => (ks.Nodup ∧ ks.length = qs.length) ∧ k ks qs := by unfold dzK; exact propext Iff.rfl
theorem w_dictZip : WpE (dictZipM gs ρ μ) Q X = WpE (gs ρ μ) (fun xs μ1 => dzK xs μ1 fun ks qs => Q (.v (.dct (ks.map Sum.inr) qs)) μ1) X := by
  unfold dictZipM
  rw [w_bind]
  refine WpE_ext fun xs μ1 => ?_
  have no : ∀ (ys : List EV), (∀ x qs, ys = [x, .v (.tup qs)] → False) → dzK ys μ1 (fun ks qs => Q (.v (.dct (ks.map Sum.inr) qs)) μ1) = False := by
    intro ys h
    unfold dzK
    split
    · exact (h _ _ rfl).elim
    · rfl
  split
  · rename_i x qs
    rw [dzK_eq]
    cases lstE x μ1 with
    | none => exact w_no
    | some ps =>
      show WpE (match strsOf ps with | some ks => if ks.Nodup ∧ ks.length = qs.length then .ok (.v (.dct (ks.map Sum.inr) qs)) μ1 else .no | none => .no) Q X = optK (strsOf ps) _
      cases strsOf ps with
      | none => exact w_no
      | some ks => exact w_guard
  · rename_i h
    rw [no xs (fun x qs e => h x qs e)]
    exact w_no
theorem strsOf_mapS {xs : List Str} : strsOf (xs.map PV.str) = some xs := strsOf_map xs
def tixK (x : EV) (k : Str → Prop) [Tag k] : Prop := strVK x k
theorem w_tupIxM : WpE (tupIxM gs fe ρ μ) Q X = WpE (gs ρ μ) (fun xs μ1 => valsK xs fun ps => optK (strsOf ps) fun ys => WpE (fe ρ μ1) (fun y μ2 => strVK y fun z => optK (firstAt z ys 0) fun j => Q (.v (.int (j : Nat))) μ2) X) X := by
  unfold tupIxM
  rw [w_bind]
  refine WpE_ext fun xs μ1 => ?_
  rw [w_valsM]
  unfold valsK
  cases pvs xs with
  | none => rfl
  | some ps =>
    refine congrArg (fun z => ps.length ≤ sizeLine ∧ z) ?_
    show _ = optK (strsOf ps) _
    dsimp only
    cases strsOf ps with
    | none => exact w_no
    | some ys =>
      show WpE ((fe ρ μ1).bind _) Q X = _
      rw [w_bind, optK_some]
      refine WpE_ext fun y μ2 => ?_
      unfold strVK
      rcases y with p | k
      · cases p with
        | str z =>
          show WpE (match firstAt z ys 0 with | some j => .ok (.v (.int (j : Nat))) μ2 | none => .no) Q X = optK (firstAt z ys 0) _
          cases firstAt z ys 0 <;> first | exact w_ok | exact w_no
        | _ => exact w_no
      · exact w_no
theorem w_ownAdd {c : Str} {cl : FC} : WpE (ownAddO c cl x y μ) Q X = clsK x μ fun c1 _ => clsK y μ fun c2 _ => (c1 = c ∧ c2 = c) ∧ WpE (callS cl 2 [x, y] μ) Q X := by
  unfold ownAddO clsK
  cases clsOf x μ with
  | none => exact w_no
  | some z =>
    cases clsOf y μ with
    | none => exact w_no
    | some u =>
      show WpE (if _ then _ else _) Q X = (_ ∧ _)
      by_cases h : z.1 = c ∧ u.1 = c
      · rw [if_pos h]; exact propext ⟨fun q => ⟨h, q⟩, fun q => q.2⟩
      · rw [if_neg h, w_no]; exact propext ⟨fun q => q.elim, fun q => (h q.1).elim⟩
end
end P

set_option Elab.async false
set_option linter.all false
set_option maxRecDepth 100000
set_option maxHeartbeats 4000000
/-! dict displays, a | b, comprehensions of two for: what they end in. -/
namespace P
open PySem PySem.Spec L2 G
section
variable {ρ : Env} {μ : Sto} {Q : EV → Sto → Prop} {X : XQ}
theorem w_dnew : WpE (dnewM ρ μ) Q X = Q (.v (.dct [] [])) μ := (Eq.trans rfl rfl)
def dispK (xs : List EV) (k : List Key → List PV → Prop) [Tag k] : Prop := match flatKV xs with
  | some (ks, vs) => ks.length ≤ 15 ∧ k (mgD [] [] ks vs).1 (mgD [] [] ks vs).2
  | none => False
theorem w_disp {fa : FA} : WpE (dispM fa ρ μ) Q X = WpE (fa ρ μ) (fun xs μ1 => dispK xs fun ks vs => Q (.v (.dct ks vs)) μ1) X := by
  unfold dispM
  rw [w_bind]
  refine WpE_ext fun xs μ1 => ?_
  unfold dispK
  cases flatKV xs with
  | none => exact w_no
  | some r =>
    obtain ⟨ks, vs⟩ := r
    show WpE (if _ then _ else _) Q X = _
    exact w_guard
theorem dispK_1 {k v : PV} {kk : List Key → List PV → Prop} : dispK [.v k, .v v] kk = optK (keyP k) fun q => kk [q] [v] := by
  unfold dispK flatKV optK
  cases keyP k with
  | none => exact (Eq.trans rfl rfl)
  | some q => exact propext ⟨fun h => h.2, fun h => ⟨by show 1 ≤ 15; decide, h⟩⟩
theorem keyP_str {s : Str} : keyP (.str s) = some (.inr s) := (Eq.trans rfl rfl)
theorem v_orD {ks ls : List Key} {vs us : List PV} : WpE (orO (.v (.dct ks vs)) (.v (.dct ls us)) μ) Q X = (ks.length + ls.length ≤ 64 ∧ Q (.v (.dct (mgD ks vs ls us).1 (mgD ks vs ls us).2)) μ) := w_guard
theorem mg_new {ks : List Key} {vs : List PV} {q : Key} {v : PV} (h : hasK q ks = false) : mgD ks vs [q] [v] = (ks ++ [q], vs ++ [v]) := by
  show (putKK ks q, putVV ks vs q v) = _
  unfold putKK putVV
  rw [h]
  rfl
theorem w_sortSetTM {fe : FE} : WpE (sortSetTM fe ρ μ) Q X = WpE (fe ρ μ) (fun x μ1 => tupVK x fun ps => strsK (some ps) fun xs => Q (.v (.lst ((sortU xs).map PV.str))) μ1) X := by
  unfold sortSetTM
  rw [w_bind]
  refine WpE_ext fun x μ1 => ?_
  unfold tupVK
  rcases x with p | k
  · cases p with
    | tup ps =>
      unfold strsK
      cases h : strsOf ps with
      | none => simp only [h]; exact w_no
      | some ys => simp only [h]; exact w_guard
    | _ => exact w_no
  · exact w_no
theorem w_lc2 {os os1 : List Nat} {fi fi1 : FA} {g g1 : FG} {tt tt1 : FT} {te : FE} : WpE (lc2M os fi g tt os1 fi1 g1 tt1 te ρ μ) Q X = WpE (fi ρ μ) (fun xs μ1 => evK (wipeR ρ os) fun ρ1 => evK (μ1 ++ [.lst []]) fun μ2 => WpE (lc2K g tt fi1 g1 tt1 te os1 ρ1 μ1.length xs μ2) (fun _ μ3 => WpE (freeze (.c μ1.length) μ3) Q X) X) X := by
  unfold lc2M evK
  rw [w_bind]
  refine WpE_ext fun xs μ1 => ?_
  rw [w_bind]
end
theorem lcK_map {β : Type} {g : FG} {te : FE} {ρ0 : Env} {μ0 : Sto} {Q : Unit → Sto → Prop} {X : XQ} (h : β → EV) (o : β → PV) : ∀ (bs : List β) (acc : List PV),
    (∀ b ∈ bs, ∀ acc, WpE (g (h b) ρ0 (μ0 ++ [.lst acc])) (fun ρ1 μ1 => WpE (te ρ1 μ1) (fun y μ3 => y = .v (o b) ∧ μ3 = μ0 ++ [.lst acc]) noX) noX) →
    acc.length + bs.length ≤ sizeLine → Q () (μ0 ++ [.lst (acc ++ bs.map o)]) → WpE (lcK g tyesM te ρ0 μ0.length (bs.map h) (μ0 ++ [.lst acc])) Q X
  | [], acc, _, _, q => by
    rw [List.map_nil, List.append_nil] at q
    exact q
  | b :: r, acc, k, hl, q => by
    rw [List.map_cons]
    unfold lcK
    rw [w_bind]
    refine (k b List.mem_cons_self acc).mono (fun ρ1 μ1 z => ?_) (fun _ _ _ _ z => z.elim)
    rw [w_bind, w_tyesM, if_pos rfl, w_bind]
    refine WpE.mono z (fun y μ3 z => ?_) (fun _ _ _ _ z => z.elim)
    obtain ⟨rfl, rfl⟩ := z
    rw [List.length_cons] at hl
    have e : pushK μ0.length (.v (o b)) (μ0 ++ [.lst acc]) = .ok () (μ0 ++ [.lst (acc ++ [o b])]) := by
      unfold pushK
      rw [List.getElem?_append_right (Nat.le_refl _), Nat.sub_self]
      show (if acc.length < sizeLine then _ else _) = _
      rw [if_pos (by omega), List.set_append_right _ _ (Nat.le_refl _), Nat.sub_self]
      rfl
    rw [e]
    refine lcK_map h o r (acc ++ [o b]) (fun c hc => k c (List.mem_cons_of_mem _ hc)) (by rw [List.length_append, List.length_singleton]; omega) ?_
    rw [List.map_cons] at q
    rw [List.append_assoc]
    exact q
theorem lc2_map {α β : Type} {g g1 : FG} {fi1 : FA} {te : FE} {os1 : List Nat} {ρ0 : Env} {μ0 : Sto} {Q : Unit → Sto → Prop} {X : XQ} (f : α → EV) (h : β → EV) (ys : α → List β) (o : α → β → PV) : ∀ (as : List α) (acc : List PV),
    (∀ a ∈ as, ∀ acc, WpE (g (f a) ρ0 (μ0 ++ [.lst acc])) (fun ρ1 μ1 => WpE (fi1 ρ1 μ1) (fun zs μ2 => zs = (ys a).map h ∧ μ2 = μ0 ++ [.lst acc] ∧
      ∀ b ∈ ys a, ∀ acc, WpE (g1 (h b) (wipeR ρ1 os1) (μ0 ++ [.lst acc])) (fun ρ2 μ3 => WpE (te ρ2 μ3) (fun y μ4 => y = .v (o a b) ∧ μ4 = μ0 ++ [.lst acc]) noX) noX) noX) noX) →
    acc.length + (as.flatMap ys).length ≤ sizeLine → Q () (μ0 ++ [.lst (acc ++ as.flatMap fun a => (ys a).map (o a))]) →
    WpE (lc2K g tyesM fi1 g1 tyesM te os1 ρ0 μ0.length (as.map f) (μ0 ++ [.lst acc])) Q X
  | [], acc, _, _, q => by
    rw [List.flatMap_nil, List.append_nil] at q
    exact q
  | a :: r, acc, k, hl, q => by
    rw [List.map_cons]
    unfold lc2K
    rw [w_bind]
    refine (k a List.mem_cons_self acc).mono (fun ρ1 μ1 z => ?_) (fun _ _ _ _ z => z.elim)
    rw [w_bind, w_tyesM, if_pos rfl, w_bind]
    refine WpE.mono z (fun zs μ3 z => ?_) (fun _ _ _ _ z => z.elim)
    obtain ⟨rfl, rfl, z⟩ := z
    rw [List.flatMap_cons, List.length_append] at hl
    rw [List.flatMap_cons] at q
    rw [w_bind]
    refine lcK_map h (o a) (ys a) acc z (by omega) ?_
    refine lc2_map f h ys o r (acc ++ (ys a).map (o a)) (fun c hc => k c (List.mem_cons_of_mem _ hc)) (by rw [List.length_append, List.length_map]; omega) ?_
    rw [List.append_assoc]
    exact q
end P
namespace P
open PySem PySem.Spec L2 G
theorem v_frEnd {μ0 : Sto} {ps : List PV} {Q : EV → Sto → Prop} {X : XQ} : WpE (freeze (.c μ0.length) (μ0 ++ [.lst ps])) Q X = Q (.v (.lst ps)) (μ0 ++ [.dead]) := by
  have e : freeze (.c μ0.length) (μ0 ++ [.lst ps]) = .ok (.v (.lst ps)) (μ0 ++ [.dead]) := by
    have h1 : (μ0 ++ [Cell.lst ps])[μ0.length]? = some (.lst ps) := by rw [List.getElem?_append_right (Nat.le_refl _), Nat.sub_self]; rfl
    have h2 : (μ0 ++ [Cell.lst ps]).set μ0.length .dead = μ0 ++ [.dead] := by rw [List.set_append_right _ _ (Nat.le_refl _), Nat.sub_self]; rfl
    unfold freeze
    simp only [h1, h2]
  rw [e]
  exact (Eq.trans rfl rfl)
theorem strsK_app {xs ys : List Str} {k : List Str → Prop} : strsK (some (xs.map PV.str ++ ys.map PV.str)) k = ((xs ++ ys).length < 64 ∧ k (xs ++ ys)) := by
  rw [← List.map_append]
  exact strsK_eq
end P
namespace P
theorem cut_take {xs : List PV} {i : Nat} : cutP xs none (some (i : Int)) = xs.take i := by
  unfold cutP
  rw [HT.sIx_none, HT.sIx_nat, List.drop_zero, Nat.sub_zero]
  by_cases h : i ≤ xs.length
  · rw [Nat.min_eq_left h]
  · rw [Nat.min_eq_right (by omega), List.take_of_length_le (by omega), List.take_of_length_le (by omega)]
theorem cut_drop {xs : List PV} {i : Nat} : cutP xs (some (i : Int)) none = xs.drop i := by
  unfold cutP
  rw [HT.sIx_none, HT.sIx_nat]
  by_cases h : i ≤ xs.length
  · rw [Nat.min_eq_left h, List.take_of_length_le (by rw [List.length_drop]; omega)]
  · rw [Nat.min_eq_right (by omega), Nat.sub_self, List.take_zero, List.drop_of_length_le (by omega)]
end P

set_option Elab.async false
set_option linter.all false
set_option maxRecDepth 100000
set_option maxHeartbeats 4000000
/-! list(range(n)) and more: what they end in. -/
namespace P
open PySem PySem.Spec L2 G
def rgK (x : EV) (k : Nat → Prop) [Tag k] : Prop := match x with
  | .v (.int n) => (0 ≤ n ∧ n ≤ 10000) ∧ k n.toNat
  | _ => False
theorem rgK_eq {n : Nat} {k : Nat → Prop} : rgK (.v (.int (n : Int))) k = (n ≤ 10000 ∧ k n) := by
  unfold rgK
  show ((0 ≤ (n : Int) ∧ (n : Int) ≤ 10000) ∧ k n) = _
  exact propext ⟨fun h => ⟨by omega, h.2⟩, fun h => ⟨⟨by omega, by omega⟩, h.2⟩⟩
theorem w_rgList {fe : FE} {ρ : Env} {μ : Sto} {Q : EV → Sto → Prop} {X : XQ} : WpE (rgListM fe ρ μ) Q X = WpE (fe ρ μ) (fun x μ1 => rgK x fun n => Q (.v (.lst (intsN n))) μ1) X := by
  unfold rgListM
  rw [w_bind]
  refine WpE_ext fun x μ1 => ?_
  unfold rgK
  rcases x with p | k
  · cases p <;> first | exact w_guard | exact w_no
  · exact w_no
end P

set_option Elab.async false
set_option linter.all false
set_option maxRecDepth 100000
set_option maxHeartbeats 4000000
/-! Stacks, answers, runs, in plain Lean. -/
namespace M
open PySem P
inductive Res where
  | yes | no | skip | gone
  deriving DecidableEq
def Res.s : Res → Str
  | .yes => "yes" | .no => "no" | .skip => "skip" | .gone => "gone"
abbrev Res.pv (r : Res) : PV := .str r.s
inductive Actn where
  | ok | bad | die | done | ignore | reset | jump (k : Nat)
  deriving DecidableEq
def Actn.pv : Actn → PV
  | .ok => .str "ok" | .bad => .str "bad" | .die => .str "die" | .done => .str "done" | .ignore => .str "ignore" | .reset => .str "reset" | .jump k => .int k
structure Tb where
  y : Actn
  n : Actn
  s : Actn
  g : Actn
def Tb.pv (t : Tb) : PV := .tup [t.y.pv, t.n.pv, t.s.pv, t.g.pv]
def Tb.get (t : Tb) : Res → Actn
  | .yes => t.y | .no => t.n | .skip => t.s | .gone => t.g
def Actn.Ok : Actn → Prop
  | .jump k => 1 ≤ k ∧ k ≤ 9
  | _ => True
def Tb.Ok (t : Tb) : Prop := t.y.Ok ∧ t.n.Ok ∧ t.s.Ok ∧ t.g.Ok
inductive Ent where
  | rule (m : Str) (t : Tb) | sub (es : List Ent)
mutual
def flat1 : Ent → List (Str × Tb)
  | .rule m t => [(m, t)]
  | .sub es => flat es
def flat : List Ent → List (Str × Tb)
  | [] => []
  | e :: r => flat1 e ++ flat r
end
mutual
def deep1 : Ent → Nat
  | .rule _ _ => 0
  | .sub es => deep es
def deep : List Ent → Nat
  | [] => 1
  | e :: r => max (deep1 e + 1) (deep r)
end
abbrev size1 (e : Ent) : Nat := (flat1 e).length
abbrev size (es : List Ent) : Nat := (flat es).length
def namesOf (es : List Ent) : List Str := sortU ((flat es).map (·.1))
def ruPV (x : Str × Tb) : PV := .ins "Rule" ["asks", "acts"] [.str x.1, x.2.pv]
abbrev stN : List Str := ["parts", "steps", "names", "depth"]
mutual
def entPV : Ent → PV
  | .rule m t => ruPV (m, t)
  | .sub es => .ins "Stack" stN [.tup (entPVs es), .tup ((flat es).map ruPV), .tup ((namesOf es).map PV.str), .int (deep es : Nat)]
def entPVs : List Ent → List PV
  | [] => []
  | e :: r => entPV e :: entPVs r
end
abbrev stPV (es : List Ent) : PV := .ins "Stack" stN [.tup (entPVs es), .tup ((flat es).map ruPV), .tup ((namesOf es).map PV.str), .int (deep es : Nat)]
theorem entPVs_map (es : List Ent) : entPVs es = es.map entPV := by
  induction es with
  | nil => rfl
  | cons e r ih => unfold entPVs; rw [ih]; rfl
/-- within the limits -/
structure Lim (es : List Ent) : Prop where
  len : es.length ≤ 12
  rules : size es ≤ 12
  names : (namesOf es).length ≤ 6
  depth : deep es ≤ 3
mutual
def Good1 : Ent → Prop
  | .rule _ t => t.Ok
  | .sub es => Lim es ∧ GoodL es
def GoodL : List Ent → Prop
  | [] => True
  | e :: r => Good1 e ∧ GoodL r
end
theorem goodL_mem {es : List Ent} {e : Ent} (h : GoodL es) (he : e ∈ es) : Good1 e := by
  induction es with
  | nil => cases he
  | cons a r ih =>
    obtain ⟨h1, h2⟩ := h
    rcases List.mem_cons.mp he with rfl | h
    · exact h1
    · exact ih h2 h
inductive Mark where
  | none | good | bad (n : Nat)
  deriving DecidableEq
def Mark.pv : Mark → PV
  | .none => .tup [.str "none", .non] | .good => .tup [.str "good", .non] | .bad n => .tup [.str "bad", .int n]
def stepM (a : Actn) (mark begin : Mark) (n : Nat) : Mark := match a with
  | .ok | .done => if mark = .none then .good else mark
  | .bad | .die => (match mark with
    | .bad k => .bad k
    | _ => .bad n)
  | .reset => begin
  | _ => mark
def stopsB (a : Actn) (mark : Mark) : Bool := decide (a = .die) || (decide (a = .done) && decide (mark = .good))
def jumpOf : Actn → Nat
  | .jump k => k
  | _ => 0
mutual
/-- a run: the mark, the rules that are asked -/
def runE (A : Str → Res) : Ent → Nat → Mark → Mark → Mark × List Nat
  | .rule m t, num, mark, begin => (stepM (t.get (A m)) mark begin num, [num])
  | .sub es, num, mark, _ => runL A es 0 num mark mark
def runL (A : Str → Res) : List Ent → Nat → Nat → Mark → Mark → Mark × List Nat
  | [], _, _, mark, _ => (mark, [])
  | e :: r, k + 1, num, mark, begin => runL A r k (num + size1 e) mark begin
  | e :: r, 0, num, mark, begin =>
    let x := runE A e num mark begin
    if (match e with
      | .rule m t => stopsB (t.get (A m)) x.1
      | .sub _ => false) then x
    else
      let y := runL A r (match e with
        | .rule m t => jumpOf (t.get (A m))
        | .sub _ => 0) (num + size1 e) x.1 begin
      (y.1, x.2 ++ y.2)
end
def run (A : Str → Res) (es : List Ent) : Mark × List Nat := runL A es 0 0 .none .none
/-- where it leads -/
def isIn (A : Str → Res) (es : List Ent) : Bool := decide ((run A es).1 = .good)
def outS (b : Bool) : Str := if b then "in" else "out"
def blame : Mark → PV
  | .bad n => .int n
  | _ => .non
/-! ### answers -/
abbrev Ans := List (Str × Res)
def ansK (a : Ans) : List L2.Key := a.map fun x => Sum.inr x.1
def ansV (a : Ans) : List PV := a.map fun x => x.2.pv
abbrev ansPV (a : Ans) : PV := .dct (ansK a) (ansV a)
def Ans.get (a : Ans) (m : Str) : Res := match a.find? fun x => x.1 == m with
  | some x => x.2
  | none => .yes
def ansN (a : Ans) : List Str := a.map (·.1)
theorem size_cons (e : Ent) (r : List Ent) : size (e :: r) = size1 e + size r := by
  show (flat1 e ++ flat r).length = _
  rw [List.length_append]
theorem flat_cons (e : Ent) (r : List Ent) : flat (e :: r) = flat1 e ++ flat r := rfl
theorem flat_append (xs ys : List Ent) : flat (xs ++ ys) = flat xs ++ flat ys := by
  induction xs with
  | nil => rfl
  | cons e r ih => rw [List.cons_append, flat_cons, flat_cons, ih, List.append_assoc]
theorem runL_skip (A : Str → Res) : ∀ (es : List Ent) (k num : Nat) (mark begin : Mark), runL A es k num mark begin = runL A (es.drop k) 0 (num + size (es.take k)) mark begin
  | [], k, num, mark, begin => by rw [List.drop_nil, List.take_nil]; cases k <;> simp [runL]
  | e :: r, 0, num, mark, begin => by rfl
  | e :: r, k + 1, num, mark, begin => by
    rw [List.drop_succ_cons, List.take_succ_cons, size_cons]
    have := runL_skip A r k (num + size1 e) mark begin
    rw [show num + (size1 e + size (r.take k)) = num + size1 e + size (r.take k) by omega, ← this]
    rw [runL]
theorem runL_rule (A : Str → Res) (m : Str) (t : Tb) (r : List Ent) (num : Nat) (mark begin : Mark) :
    runL A (.rule m t :: r) 0 num mark begin = if stopsB (t.get (A m)) (stepM (t.get (A m)) mark begin num) then (stepM (t.get (A m)) mark begin num, [num]) else
        ((runL A r (jumpOf (t.get (A m))) (num + 1) (stepM (t.get (A m)) mark begin num) begin).1, num :: (runL A r (jumpOf (t.get (A m))) (num + 1) (stepM (t.get (A m)) mark begin num) begin).2) := by
  rw [runL, runE]
  rfl
theorem runL_sub (A : Str → Res) (es r : List Ent) (num : Nat) (mark begin : Mark) :
    runL A (.sub es :: r) 0 num mark begin = ((runL A r 0 (num + size es) (runL A es 0 num mark mark).1 begin).1, (runL A es 0 num mark mark).2 ++ (runL A r 0 (num + size es) (runL A es 0 num mark mark).1 begin).2) := by
  rw [runL, runE]
  rfl
end M

set_option Elab.async false
set_option linter.all false
/-! sorted(set(..)) in plain Lean. -/
namespace M
open PySem P
theorem nodup_sub_len {α : Type} [DecidableEq α] : ∀ {l m : List α}, l.Nodup → (∀ x ∈ l, x ∈ m) → l.length ≤ m.length
  | [], _, _, _ => Nat.zero_le _
  | x :: l, m, h, hs => by
    have h1 := List.nodup_cons.mp h
    have hx := hs x List.mem_cons_self
    have := nodup_sub_len (l := l) (m := m.erase x) h1.2 fun y hy => (List.mem_erase_of_ne (fun (e : y = x) => h1.1 (by rw [← e]; exact hy))).mpr (hs y (List.mem_cons_of_mem _ hy))
    rw [List.length_erase_of_mem hx] at this
    have hp : 0 < m.length := List.length_pos_of_mem hx
    rw [List.length_cons]
    omega
theorem mem_sortU {x : Str} {xs : List Str} : x ∈ sortU xs ↔ x ∈ xs := by
  unfold sortU
  rw [(sortS_perm _).mem_iff, mem_undup]
theorem nodup_sortU (xs : List Str) : (sortU xs).Nodup := by
  unfold sortU
  exact (sortS_perm _).nodup_iff.mpr (nodup_undup xs)
theorem sortU_sub {xs ys : List Str} (h : ∀ x ∈ xs, x ∈ ys) : (sortU xs).length ≤ (sortU ys).length :=
  nodup_sub_len (nodup_sortU xs) fun x hx => mem_sortU.mpr (h x (mem_sortU.mp hx))
theorem sortU_congr {xs ys : List Str} (h : ∀ x, x ∈ xs ↔ x ∈ ys) : sortU xs = sortU ys := by
  unfold sortU
  refine asc_uniq (sortS_asc _) (sortS_asc _) ?_
  exact ((sortS_perm _).trans (perm_of_mem (nodup_undup xs) (nodup_undup ys) fun x => by rw [mem_undup, mem_undup, h x])).trans (sortS_perm _).symm
theorem flat_take_succ (es : List Ent) (i : Nat) (e : Ent) (h : es[i]? = some e) : flat (es.take (i + 1)) = flat (es.take i) ++ flat1 e := by
  rw [List.take_add_one, h, flat_append]
  simp [flat]
theorem deep_pos (ys : List Ent) : 1 ≤ deep ys := by
  induction ys with
  | nil => exact Nat.le_refl _
  | cons e r ih => rw [deep]; omega
theorem deep_append (xs ys : List Ent) : deep (xs ++ ys) = max (deep xs) (deep ys) := by
  induction xs with
  | nil =>
    have := deep_pos ys
    rw [List.nil_append]
    show _ = max 1 _
    omega
  | cons e r ih => rw [List.cons_append, deep, deep, ih]; omega
theorem deep_take_succ (es : List Ent) (i : Nat) (e : Ent) (h : es[i]? = some e) : deep (es.take (i + 1)) = max (deep (es.take i)) (deep1 e + 1) := by
  rw [List.take_add_one, h, deep_append]
  show max _ (max (deep1 e + 1) 1) = _
  omega
theorem deep_take_le (es : List Ent) (i : Nat) : deep (es.take i) ≤ deep es := by
  have := deep_append (es.take i) (es.drop i)
  rw [List.take_append_drop] at this
  omega
theorem flat_take_sub (es : List Ent) (i : Nat) : ∃ l, flat es = flat (es.take i) ++ l := by
  have := flat_append (es.take i) (es.drop i)
  rw [List.take_append_drop] at this
  exact ⟨_, this⟩
theorem size_take_le (es : List Ent) (i : Nat) : size (es.take i) ≤ size es := by
  obtain ⟨l, h⟩ := flat_take_sub es i
  show (flat _).length ≤ (flat _).length
  rw [h, List.length_append]
  omega
theorem names_take_le (es : List Ent) (i : Nat) : (namesOf (es.take i)).length ≤ (namesOf es).length := by
  obtain ⟨l, h⟩ := flat_take_sub es i
  refine sortU_sub fun x hx => ?_
  rw [h, List.map_append]
  exact List.mem_append_left _ hx
theorem Lim.take {es : List Ent} (h : Lim es) (i : Nat) : Lim (es.take i) :=
  ⟨by rw [List.length_take]; have := h.len; omega, Nat.le_trans (size_take_le es i) h.rules, Nat.le_trans (names_take_le es i) h.names, Nat.le_trans (deep_take_le es i) h.depth⟩
theorem numb_map (ps : List PV) : ∀ n : Nat, numb n ps = (ps.zipIdx n).map fun z => EV.v (.tup [.int (z.2 : Nat), z.1]) := by
  induction ps with
  | nil => intro n; rfl
  | cons p r ih => intro n; rw [List.zipIdx_cons]; unfold numb; rw [ih]; rfl
theorem numb_get (ps : List PV) (i : Nat) : ∀ n : Nat, (numb n ps)[i]? = (ps[i]?).map fun p => EV.v (.tup [.int ((n + i : Nat) : Int), p]) := by
  induction ps generalizing i with
  | nil => intro n; rfl
  | cons p r ih =>
    intro n
    cases i with
    | zero => rfl
    | succ i =>
      unfold numb
      rw [List.getElem?_cons_succ, List.getElem?_cons_succ, ih, show n + 1 + i = n + (i + 1) by omega]
end M

set_option Elab.async false
set_option linter.all false
set_option maxRecDepth 100000
set_option maxHeartbeats 4000000
/-! The head's facts as Bools, the law's end. -/
namespace P
open PySem PySem.Spec L2 G He
/-! ### a module's constants -/
mutual
def vB (K : PySem.W.Frag) : PV → Value → Bool
  | .non, .none => true
  | .bl b, .bool c => b == c
  | .int i, .int j _ => decide (i = j)
  | .str s, .str z _ => decide (s = z)
  | .tup ps, .ref a => (match K.lookup a with
    | some o => decide (o.cls = .type "tuple") && (match o.data with
      | .seq its _ => decide (its.size ≤ sizeLine) && vBs K ps its.toList
      | _ => false)
    | none => false)
  | _, _ => false
def vBs (K : PySem.W.Frag) : List PV → List Value → Bool
  | [], [] => true
  | p :: ps, v :: vs => vB K p v && vBs K ps vs
  | _, _ => false
end
section
variable {K : PySem.W.Frag} {CT : Str → Addr} {H : Hp}
mutual
theorem vB_rep : ∀ (p : PV) (v : Value), vB K p v = true → ∃ u, RelV u v ∧ Rep K CT H u p
  | .non, v, h => by
    cases v <;> simp [vB] at h
    exact ⟨.non, rfl, .non⟩
  | .bl b, v, h => by
    cases v <;> simp [vB] at h
    subst h
    exact ⟨.bl _, rfl, .bl _⟩
  | .int i, v, h => by
    cases v <;> simp [vB] at h
    subst h
    exact ⟨.int _, ⟨_, rfl⟩, .int _⟩
  | .str s, v, h => by
    cases v <;> simp [vB] at h
    subst h
    exact ⟨.str _, ⟨_, rfl⟩, .str _⟩
  | .tup ps, v, h => by
    cases v with
    | ref a =>
      unfold vB at h
      split at h
      · rename_i o ho
        obtain ⟨h1, h2⟩ := ba h
        split at h2
        · rename_i its n hd
          obtain ⟨h3, h4⟩ := ba h2
          obtain ⟨us, r1, r2⟩ := vB_reps ps its.toList h4
          exact ⟨.ref a, rfl, .tup (.inr ⟨o, its, n, ho, of_decide_eq_true h1, hd, of_decide_eq_true h3, r1⟩) r2⟩
        · cases h2
      · cases h
    | _ => simp [vB] at h
  | .lst _, v, h | .frl _, v, h | .dct _ _, v, h | .ins _ _ _, v, h | .ty _, v, h | .cls _, v, h => by cases v <;> simp [vB] at h
theorem vB_reps : ∀ (ps : List PV) (vs : List Value), vBs K ps vs = true → ∃ us, Vals us vs ∧ Reps K CT H us ps
  | [], vs, h => by
    cases vs with
    | nil => exact ⟨[], .nil, .nil⟩
    | cons _ _ => simp [vBs] at h
  | p :: ps, vs, h => by
    cases vs with
    | nil => simp [vBs] at h
    | cons v vs =>
      unfold vBs at h
      obtain ⟨h1, h2⟩ := ba h
      obtain ⟨u, a1, a2⟩ := vB_rep p v h1
      obtain ⟨us, b1, b2⟩ := vB_reps ps vs h2
      exact ⟨u :: us, .cons a1 b1, .cons a2 b2⟩
end
theorem const_rep {a : Addr} {p : PV} (h : vB K p (.ref a) = true) : Rep K CT H (.ref a) p := by
  obtain ⟨u, h1, h2⟩ := vB_rep (CT := CT) (H := H) p (.ref a) h
  cases u with
  | ref b => rw [show a = b from Value.ref.inj h1]; exact h2
  | _ => first | (obtain ⟨_, h1⟩ := h1; cases h1) | cases h1
end
def tupKB (K : PySem.W.Frag) (a : Addr) (ys : List Str) : Bool := vB K (.tup (ys.map PV.str)) (.ref a) && (match K.lookup a with
  | some o => decide (o.cls = .type "tuple") && o.dict.isNone
  | none => false)
theorem reps_strs {K : PySem.W.Frag} {CT : Str → Addr} {H : Hp} : ∀ {ys : List Str} {us : List V}, Reps K CT H us (ys.map PV.str) → us = ys.map V.str
  | [], _, .nil => rfl
  | _ :: _, _, .cons (.str _) t => by rw [List.map_cons, reps_strs t]
theorem tupKB_ok {K : PySem.W.Frag} {a : Addr} {ys : List Str} (h : tupKB K a ys = true) : TupK K a ys := by
  obtain ⟨h1, h2⟩ := ba h
  refine ⟨?_, fun H => ?_⟩
  · split at h2
    · rename_i o ho
      obtain ⟨c1, c2⟩ := ba h2
      exact ⟨o, ho, of_decide_eq_true c1, Option.isNone_iff_eq_none.mp c2⟩
    · cases h2
  · have r := const_rep (CT := fun _ => 0) (H := H) h1
    cases r with
    | tup hs hr => rw [← reps_strs hr]; exact hs
/-! ### isinstance -/
def isFB (K : PySem.W.Frag) (cs : List Str) : Bool :=
  (cs.all fun c => He.eqO (PySem.W.findIn K (.ref (ga K c)) "__class__") (some (some (.builtin "object.__class__"))) && decide (PySem.W.mroIn K (ga K c) (.type "object") = some true)) &&
  ((He.eqO (PySem.W.specialIn K (.builtin "object.__class__") "__get__") (some (some (.builtin "getset_descriptor.__get__"))) && decide (PySem.W.takesIn K (.builtin "object.__class__") = some true)) &&
  ((cs.all fun c => cs.all fun d => decide (PySem.W.kitOne K (.ref (ga K c)) (.ref (ga K d)) = some (decide (c = d)))) &&
  ((("NoneType" :: bts).all fun t => cs.all fun d => decide (PySem.W.kitOne K (.type t) (.ref (ga K d)) = some false)) &&
  (cs.all fun c => bts.all fun t => decide (PySem.W.kitOne K (.ref (ga K c)) (.type t) = some false)))))
theorem isFB_ok {K : PySem.W.Frag} {cs : List Str} (h : isFB K cs = true) (hc : ∀ c ∈ cs, Cls K (ga K c)) : IsF K (fun c => ga K c) cs := by
  obtain ⟨h1, h⟩ := ba h
  obtain ⟨h2, h⟩ := ba h
  obtain ⟨h3, h⟩ := ba h
  obtain ⟨h4, h5⟩ := ba h
  obtain ⟨g1, g2⟩ := ba h2
  refine ⟨fun c hcs H a dx fs hH => ?_, fun c hcs d hd => ?_, fun t ht d hd => ?_, fun c hcs t ht => ?_⟩
  · obtain ⟨k1, k2⟩ := ba (List.all_eq_true.mp h1 c hcs)
    exact .base (.ins hH (hc c hcs) (He.eqO_ok k1) (He.eqO_ok g1) (of_decide_eq_true g2) (of_decide_eq_true k2))
  · exact of_decide_eq_true (List.all_eq_true.mp (List.all_eq_true.mp h3 c hcs) d hd)
  · exact of_decide_eq_true (List.all_eq_true.mp (List.all_eq_true.mp h4 t ht) d hd)
  · exact of_decide_eq_true (List.all_eq_true.mp (List.all_eq_true.mp h5 c hcs) t ht)
/-! ### the end -/
theorem post_of {K : PySem.W.Frag} {CT : Str → Addr} {w : Wd} {m : Ro EV} {E : XK} (h : WpE m (fun r _ => r = .v (.bl true)) noX) : Post K CT (EVRep K CT) w (fun v _ => v = V.bl true) E m := by
  cases m with
  | no => exact h
  | exc c ns vs μ => exact h.elim
  | ok r μ =>
    have e : r = .v (.bl true) := h
    subst e
    intro b w' _ _ q
    cases q with
    | v q => cases q; rfl
theorem law_end {K : PySem.W.Frag} {CT : Str → Addr} {cl : FC} {H : Hp} {a : Addr} {ns : List Int} (hS : SqL K H a (ns.map V.int)) (h : WpE (cl [.v (.frl (ns.map PV.int))] []) (fun r _ => r = .v (.bl true)) noX) :
    spOf K CT cl 1 [.ref a] H (fun v _ => v = .bl true) fun _ _ _ => False :=
  ⟨⟨[], H, H⟩, [], [.v (.frl (ns.map PV.int))], rfl, ⟨fun _ _ h => h, rfl, List.nodup_nil, fun k x a h _ => by simp at h, fun a h => by cases h⟩, .cons (.v (.frl hS (Reps.ints ns))) .nil, rfl, post_of h⟩
end P
namespace P
open PySem
/-- the world with one of its choices written out -/
def ovW (row : String) (b : Bool) (w : World) : World := { w with params := { w.params with followText := fun s => if s == row then b else w.params.followText s } }
theorem ovW_self (row : String) (w : World) : ovW row (w.params.followText row) w = w := by
  obtain ⟨d, p⟩ := w
  obtain ⟨_, _, _, _, _, ft⟩ := p
  have e : (fun s => if s == row then ft row else ft s) = ft := by
    funext s
    by_cases h : s = row
    · subst h; simp
    · simp [h]
  unfold ovW
  simp only [e]
end P

set_option Elab.async false
set_option linter.all false
set_option maxRecDepth 100000
set_option maxHeartbeats 4000000
namespace T
open PySem PySem.Spec L2 G P
abbrev f_is_number : Nat := 0
abbrev f_is_word : Nat := 1
abbrev f_is_action : Nat := 2
abbrev f_table_of : Nat := 3
abbrev f_Rule_init : Nat := 4
abbrev f_Rule_action_for : Nat := 5
abbrev f_Stack_init : Nat := 6
abbrev f_Stack___add__ : Nat := 7
abbrev f_steps_of : Nat := 8
abbrev f_firsts_of : Nat := 9
abbrev f_Run_init : Nat := 10
abbrev f_Run_ended : Nat := 11
abbrev f_Run_outcome : Nat := 12
abbrev f_marked : Nat := 13
abbrev f_need_answers : Nat := 14
abbrev f_asked : Nat := 15
abbrev f_blamed : Nat := 16
abbrev f_all_answers : Nat := 17
abbrev f_both_outcomes : Nat := 18
abbrev f_first_difference : Nat := 19
abbrev f_alike : Nat := 20
abbrev f_free_pairs : Nat := 21
abbrev f_l_taken : Nat := 22
abbrev f_l_pick : Nat := 23
abbrev f_l_table : Nat := 24
abbrev f_l_plain : Nat := 25
abbrev f_l_names : Nat := 26
abbrev f_l_rules : Nat := 27
abbrev f_l_modules : Nat := 28
abbrev f_l_made : Nat := 29
abbrev f_l_all : Nat := 30
abbrev f_l_calm : Nat := 31
abbrev f_law : Nat := 32
abbrev n_acts : List Str := ["Rule"]
abbrev n_asked_rules : List Str := ["Run"]
abbrev n_asks : List Str := ["Rule"]
abbrev n_depth : List Str := ["Stack"]
abbrev n_mark : List Str := ["Run"]
abbrev n_names : List Str := ["Stack"]
abbrev n_parts : List Str := ["Stack"]
abbrev n_steps : List Str := ["Stack"]
abbrev n_told : List Str := ["Run"]
abbrev clss : List Str := ["Rule", "Run", "Stack"]
def g_ACTIONS : PV := PV.tup [(.str "ok"), (.str "bad"), (.str "die"), (.str "done"), (.str "ignore"), (.str "reset")]
def g_RESULTS : PV := PV.tup [(.str "yes"), (.str "no"), (.str "skip"), (.str "gone")]
def g_NONE : PV := PV.tup [(.str "none"), .non]
def g_GOOD : PV := PV.tup [(.str "good"), .non]
abbrev k_RESULTS : List Str := ["yes", "no", "skip", "gone"]
theorem fc_acts_Rule : (n_acts).contains ("Rule" : Str) = true := (Eq.trans rfl rfl)
theorem fc_asked_rules_Run : (n_asked_rules).contains ("Run" : Str) = true := (Eq.trans rfl rfl)
theorem fc_asks_Rule : (n_asks).contains ("Rule" : Str) = true := (Eq.trans rfl rfl)
theorem fc_depth_Stack : (n_depth).contains ("Stack" : Str) = true := (Eq.trans rfl rfl)
theorem fc_mark_Run : (n_mark).contains ("Run" : Str) = true := (Eq.trans rfl rfl)
theorem fc_names_Stack : (n_names).contains ("Stack" : Str) = true := (Eq.trans rfl rfl)
theorem fc_parts_Stack : (n_parts).contains ("Stack" : Str) = true := (Eq.trans rfl rfl)
theorem fc_steps_Stack : (n_steps).contains ("Stack" : Str) = true := (Eq.trans rfl rfl)
theorem fc_told_Run : (n_told).contains ("Run" : Str) = true := (Eq.trans rfl rfl)
theorem ib_Rule {n : String} : isB clss (.b n) (.cls "Rule") = some false := (Eq.trans rfl rfl)
theorem io_Rule_Rule : isB clss (.o "Rule") (.cls "Rule") = some true := (Eq.trans rfl rfl)
theorem io_Rule_Run : isB clss (.o "Rule") (.cls "Run") = some false := (Eq.trans rfl rfl)
theorem io_Rule_Stack : isB clss (.o "Rule") (.cls "Stack") = some false := (Eq.trans rfl rfl)
theorem iy_Rule_int : isB clss (.o "Rule") (.ty "int") = some false := (Eq.trans rfl rfl)
theorem iy_Rule_bool : isB clss (.o "Rule") (.ty "bool") = some false := (Eq.trans rfl rfl)
theorem iy_Rule_str : isB clss (.o "Rule") (.ty "str") = some false := (Eq.trans rfl rfl)
theorem iy_Rule_tuple : isB clss (.o "Rule") (.ty "tuple") = some false := (Eq.trans rfl rfl)
theorem iy_Rule_list : isB clss (.o "Rule") (.ty "list") = some false := (Eq.trans rfl rfl)
theorem iy_Rule_dict : isB clss (.o "Rule") (.ty "dict") = some false := (Eq.trans rfl rfl)
theorem ib_Run {n : String} : isB clss (.b n) (.cls "Run") = some false := (Eq.trans rfl rfl)
theorem io_Run_Rule : isB clss (.o "Run") (.cls "Rule") = some false := (Eq.trans rfl rfl)
theorem io_Run_Run : isB clss (.o "Run") (.cls "Run") = some true := (Eq.trans rfl rfl)
theorem io_Run_Stack : isB clss (.o "Run") (.cls "Stack") = some false := (Eq.trans rfl rfl)
theorem iy_Run_int : isB clss (.o "Run") (.ty "int") = some false := (Eq.trans rfl rfl)
theorem iy_Run_bool : isB clss (.o "Run") (.ty "bool") = some false := (Eq.trans rfl rfl)
theorem iy_Run_str : isB clss (.o "Run") (.ty "str") = some false := (Eq.trans rfl rfl)
theorem iy_Run_tuple : isB clss (.o "Run") (.ty "tuple") = some false := (Eq.trans rfl rfl)
theorem iy_Run_list : isB clss (.o "Run") (.ty "list") = some false := (Eq.trans rfl rfl)
theorem iy_Run_dict : isB clss (.o "Run") (.ty "dict") = some false := (Eq.trans rfl rfl)
theorem ib_Stack {n : String} : isB clss (.b n) (.cls "Stack") = some false := (Eq.trans rfl rfl)
theorem io_Stack_Rule : isB clss (.o "Stack") (.cls "Rule") = some false := (Eq.trans rfl rfl)
theorem io_Stack_Run : isB clss (.o "Stack") (.cls "Run") = some false := (Eq.trans rfl rfl)
theorem io_Stack_Stack : isB clss (.o "Stack") (.cls "Stack") = some true := (Eq.trans rfl rfl)
theorem iy_Stack_int : isB clss (.o "Stack") (.ty "int") = some false := (Eq.trans rfl rfl)
theorem iy_Stack_bool : isB clss (.o "Stack") (.ty "bool") = some false := (Eq.trans rfl rfl)
theorem iy_Stack_str : isB clss (.o "Stack") (.ty "str") = some false := (Eq.trans rfl rfl)
theorem iy_Stack_tuple : isB clss (.o "Stack") (.ty "tuple") = some false := (Eq.trans rfl rfl)
theorem iy_Stack_list : isB clss (.o "Stack") (.ty "list") = some false := (Eq.trans rfl rfl)
theorem iy_Stack_dict : isB clss (.o "Stack") (.ty "dict") = some false := (Eq.trans rfl rfl)
theorem pn_Rule_0 : putNs "asks" ([] : List Str) = (["asks"] : List Str) := (Eq.trans rfl rfl)
theorem pv_Rule_0 {α : Type} {v  : α} : putVs "asks" v ([] : List Str) [] = [v] := (Eq.trans rfl rfl)
theorem lk_Rule_1_0 {α : Type} {x0 : α}  : (List.zip (["asks"] : List Str) [x0]).lookup ("asks" : Str) = some x0 := (Eq.trans rfl rfl)
theorem pn_Rule_1_0 : putNs "asks" (["asks"] : List Str) = (["asks"] : List Str) := (Eq.trans rfl rfl)
theorem pv_Rule_1_0 {α : Type} {v x0 : α} : putVs "asks" v (["asks"] : List Str) [x0] = [v] := (Eq.trans rfl rfl)
theorem pn_Rule_1 : putNs "acts" (["asks"] : List Str) = (["asks", "acts"] : List Str) := (Eq.trans rfl rfl)
theorem pv_Rule_1 {α : Type} {v x0 : α} : putVs "acts" v (["asks"] : List Str) [x0] = [x0, v] := (Eq.trans rfl rfl)
theorem lk_Rule_2_0 {α : Type} {x0 x1 : α}  : (List.zip (["asks", "acts"] : List Str) [x0, x1]).lookup ("asks" : Str) = some x0 := (Eq.trans rfl rfl)
theorem pn_Rule_2_0 : putNs "asks" (["asks", "acts"] : List Str) = (["asks", "acts"] : List Str) := (Eq.trans rfl rfl)
theorem pv_Rule_2_0 {α : Type} {v x0 x1 : α} : putVs "asks" v (["asks", "acts"] : List Str) [x0, x1] = [v, x1] := (Eq.trans rfl rfl)
theorem lk_Rule_2_1 {α : Type} {x0 x1 : α}  : (List.zip (["asks", "acts"] : List Str) [x0, x1]).lookup ("acts" : Str) = some x1 := (Eq.trans rfl rfl)
theorem pn_Rule_2_1 : putNs "acts" (["asks", "acts"] : List Str) = (["asks", "acts"] : List Str) := (Eq.trans rfl rfl)
theorem pv_Rule_2_1 {α : Type} {v x0 x1 : α} : putVs "acts" v (["asks", "acts"] : List Str) [x0, x1] = [x0, v] := (Eq.trans rfl rfl)
theorem nc_Rule_action_for_0 : ([] : List Str).contains ("action_for" : Str) = false := (Eq.trans rfl rfl)
theorem nc_Rule_action_for_1 : (["asks"] : List Str).contains ("action_for" : Str) = false := (Eq.trans rfl rfl)
theorem nc_Rule_action_for_2 : (["asks", "acts"] : List Str).contains ("action_for" : Str) = false := (Eq.trans rfl rfl)
theorem pn_Run_0 : putNs "told" ([] : List Str) = (["told"] : List Str) := (Eq.trans rfl rfl)
theorem pv_Run_0 {α : Type} {v  : α} : putVs "told" v ([] : List Str) [] = [v] := (Eq.trans rfl rfl)
theorem lk_Run_1_0 {α : Type} {x0 : α}  : (List.zip (["told"] : List Str) [x0]).lookup ("told" : Str) = some x0 := (Eq.trans rfl rfl)
theorem pn_Run_1_0 : putNs "told" (["told"] : List Str) = (["told"] : List Str) := (Eq.trans rfl rfl)
theorem pv_Run_1_0 {α : Type} {v x0 : α} : putVs "told" v (["told"] : List Str) [x0] = [v] := (Eq.trans rfl rfl)
theorem pn_Run_1 : putNs "asked_rules" (["told"] : List Str) = (["told", "asked_rules"] : List Str) := (Eq.trans rfl rfl)
theorem pv_Run_1 {α : Type} {v x0 : α} : putVs "asked_rules" v (["told"] : List Str) [x0] = [x0, v] := (Eq.trans rfl rfl)
theorem lk_Run_2_0 {α : Type} {x0 x1 : α}  : (List.zip (["told", "asked_rules"] : List Str) [x0, x1]).lookup ("told" : Str) = some x0 := (Eq.trans rfl rfl)
theorem pn_Run_2_0 : putNs "told" (["told", "asked_rules"] : List Str) = (["told", "asked_rules"] : List Str) := (Eq.trans rfl rfl)
theorem pv_Run_2_0 {α : Type} {v x0 x1 : α} : putVs "told" v (["told", "asked_rules"] : List Str) [x0, x1] = [v, x1] := (Eq.trans rfl rfl)
theorem lk_Run_2_1 {α : Type} {x0 x1 : α}  : (List.zip (["told", "asked_rules"] : List Str) [x0, x1]).lookup ("asked_rules" : Str) = some x1 := (Eq.trans rfl rfl)
theorem pn_Run_2_1 : putNs "asked_rules" (["told", "asked_rules"] : List Str) = (["told", "asked_rules"] : List Str) := (Eq.trans rfl rfl)
theorem pv_Run_2_1 {α : Type} {v x0 x1 : α} : putVs "asked_rules" v (["told", "asked_rules"] : List Str) [x0, x1] = [x0, v] := (Eq.trans rfl rfl)
theorem pn_Run_2 : putNs "mark" (["told", "asked_rules"] : List Str) = (["told", "asked_rules", "mark"] : List Str) := (Eq.trans rfl rfl)
theorem pv_Run_2 {α : Type} {v x0 x1 : α} : putVs "mark" v (["told", "asked_rules"] : List Str) [x0, x1] = [x0, x1, v] := (Eq.trans rfl rfl)
theorem lk_Run_3_0 {α : Type} {x0 x1 x2 : α}  : (List.zip (["told", "asked_rules", "mark"] : List Str) [x0, x1, x2]).lookup ("told" : Str) = some x0 := (Eq.trans rfl rfl)
theorem pn_Run_3_0 : putNs "told" (["told", "asked_rules", "mark"] : List Str) = (["told", "asked_rules", "mark"] : List Str) := (Eq.trans rfl rfl)
theorem pv_Run_3_0 {α : Type} {v x0 x1 x2 : α} : putVs "told" v (["told", "asked_rules", "mark"] : List Str) [x0, x1, x2] = [v, x1, x2] := (Eq.trans rfl rfl)
theorem lk_Run_3_1 {α : Type} {x0 x1 x2 : α}  : (List.zip (["told", "asked_rules", "mark"] : List Str) [x0, x1, x2]).lookup ("asked_rules" : Str) = some x1 := (Eq.trans rfl rfl)
theorem pn_Run_3_1 : putNs "asked_rules" (["told", "asked_rules", "mark"] : List Str) = (["told", "asked_rules", "mark"] : List Str) := (Eq.trans rfl rfl)
theorem pv_Run_3_1 {α : Type} {v x0 x1 x2 : α} : putVs "asked_rules" v (["told", "asked_rules", "mark"] : List Str) [x0, x1, x2] = [x0, v, x2] := (Eq.trans rfl rfl)
theorem lk_Run_3_2 {α : Type} {x0 x1 x2 : α}  : (List.zip (["told", "asked_rules", "mark"] : List Str) [x0, x1, x2]).lookup ("mark" : Str) = some x2 := (Eq.trans rfl rfl)
theorem pn_Run_3_2 : putNs "mark" (["told", "asked_rules", "mark"] : List Str) = (["told", "asked_rules", "mark"] : List Str) := (Eq.trans rfl rfl)
theorem pv_Run_3_2 {α : Type} {v x0 x1 x2 : α} : putVs "mark" v (["told", "asked_rules", "mark"] : List Str) [x0, x1, x2] = [x0, x1, v] := (Eq.trans rfl rfl)
theorem nc_Run_ended_0 : ([] : List Str).contains ("ended" : Str) = false := (Eq.trans rfl rfl)
theorem nc_Run_ended_1 : (["told"] : List Str).contains ("ended" : Str) = false := (Eq.trans rfl rfl)
theorem nc_Run_ended_2 : (["told", "asked_rules"] : List Str).contains ("ended" : Str) = false := (Eq.trans rfl rfl)
theorem nc_Run_ended_3 : (["told", "asked_rules", "mark"] : List Str).contains ("ended" : Str) = false := (Eq.trans rfl rfl)
theorem nc_Run_outcome_0 : ([] : List Str).contains ("outcome" : Str) = false := (Eq.trans rfl rfl)
theorem nc_Run_outcome_1 : (["told"] : List Str).contains ("outcome" : Str) = false := (Eq.trans rfl rfl)
theorem nc_Run_outcome_2 : (["told", "asked_rules"] : List Str).contains ("outcome" : Str) = false := (Eq.trans rfl rfl)
theorem nc_Run_outcome_3 : (["told", "asked_rules", "mark"] : List Str).contains ("outcome" : Str) = false := (Eq.trans rfl rfl)
theorem pn_Stack_0 : putNs "parts" ([] : List Str) = (["parts"] : List Str) := (Eq.trans rfl rfl)
theorem pv_Stack_0 {α : Type} {v  : α} : putVs "parts" v ([] : List Str) [] = [v] := (Eq.trans rfl rfl)
theorem lk_Stack_1_0 {α : Type} {x0 : α}  : (List.zip (["parts"] : List Str) [x0]).lookup ("parts" : Str) = some x0 := (Eq.trans rfl rfl)
theorem pn_Stack_1_0 : putNs "parts" (["parts"] : List Str) = (["parts"] : List Str) := (Eq.trans rfl rfl)
theorem pv_Stack_1_0 {α : Type} {v x0 : α} : putVs "parts" v (["parts"] : List Str) [x0] = [v] := (Eq.trans rfl rfl)
theorem pn_Stack_1 : putNs "steps" (["parts"] : List Str) = (["parts", "steps"] : List Str) := (Eq.trans rfl rfl)
theorem pv_Stack_1 {α : Type} {v x0 : α} : putVs "steps" v (["parts"] : List Str) [x0] = [x0, v] := (Eq.trans rfl rfl)
theorem lk_Stack_2_0 {α : Type} {x0 x1 : α}  : (List.zip (["parts", "steps"] : List Str) [x0, x1]).lookup ("parts" : Str) = some x0 := (Eq.trans rfl rfl)
theorem pn_Stack_2_0 : putNs "parts" (["parts", "steps"] : List Str) = (["parts", "steps"] : List Str) := (Eq.trans rfl rfl)
theorem pv_Stack_2_0 {α : Type} {v x0 x1 : α} : putVs "parts" v (["parts", "steps"] : List Str) [x0, x1] = [v, x1] := (Eq.trans rfl rfl)
theorem lk_Stack_2_1 {α : Type} {x0 x1 : α}  : (List.zip (["parts", "steps"] : List Str) [x0, x1]).lookup ("steps" : Str) = some x1 := (Eq.trans rfl rfl)
theorem pn_Stack_2_1 : putNs "steps" (["parts", "steps"] : List Str) = (["parts", "steps"] : List Str) := (Eq.trans rfl rfl)
theorem pv_Stack_2_1 {α : Type} {v x0 x1 : α} : putVs "steps" v (["parts", "steps"] : List Str) [x0, x1] = [x0, v] := (Eq.trans rfl rfl)
theorem pn_Stack_2 : putNs "names" (["parts", "steps"] : List Str) = (["parts", "steps", "names"] : List Str) := (Eq.trans rfl rfl)
theorem pv_Stack_2 {α : Type} {v x0 x1 : α} : putVs "names" v (["parts", "steps"] : List Str) [x0, x1] = [x0, x1, v] := (Eq.trans rfl rfl)
theorem lk_Stack_3_0 {α : Type} {x0 x1 x2 : α}  : (List.zip (["parts", "steps", "names"] : List Str) [x0, x1, x2]).lookup ("parts" : Str) = some x0 := (Eq.trans rfl rfl)
theorem pn_Stack_3_0 : putNs "parts" (["parts", "steps", "names"] : List Str) = (["parts", "steps", "names"] : List Str) := (Eq.trans rfl rfl)
theorem pv_Stack_3_0 {α : Type} {v x0 x1 x2 : α} : putVs "parts" v (["parts", "steps", "names"] : List Str) [x0, x1, x2] = [v, x1, x2] := (Eq.trans rfl rfl)
theorem lk_Stack_3_1 {α : Type} {x0 x1 x2 : α}  : (List.zip (["parts", "steps", "names"] : List Str) [x0, x1, x2]).lookup ("steps" : Str) = some x1 := (Eq.trans rfl rfl)
theorem pn_Stack_3_1 : putNs "steps" (["parts", "steps", "names"] : List Str) = (["parts", "steps", "names"] : List Str) := (Eq.trans rfl rfl)
theorem pv_Stack_3_1 {α : Type} {v x0 x1 x2 : α} : putVs "steps" v (["parts", "steps", "names"] : List Str) [x0, x1, x2] = [x0, v, x2] := (Eq.trans rfl rfl)
theorem lk_Stack_3_2 {α : Type} {x0 x1 x2 : α}  : (List.zip (["parts", "steps", "names"] : List Str) [x0, x1, x2]).lookup ("names" : Str) = some x2 := (Eq.trans rfl rfl)
theorem pn_Stack_3_2 : putNs "names" (["parts", "steps", "names"] : List Str) = (["parts", "steps", "names"] : List Str) := (Eq.trans rfl rfl)
theorem pv_Stack_3_2 {α : Type} {v x0 x1 x2 : α} : putVs "names" v (["parts", "steps", "names"] : List Str) [x0, x1, x2] = [x0, x1, v] := (Eq.trans rfl rfl)
theorem pn_Stack_3 : putNs "depth" (["parts", "steps", "names"] : List Str) = (["parts", "steps", "names", "depth"] : List Str) := (Eq.trans rfl rfl)
theorem pv_Stack_3 {α : Type} {v x0 x1 x2 : α} : putVs "depth" v (["parts", "steps", "names"] : List Str) [x0, x1, x2] = [x0, x1, x2, v] := (Eq.trans rfl rfl)
theorem lk_Stack_4_0 {α : Type} {x0 x1 x2 x3 : α}  : (List.zip (["parts", "steps", "names", "depth"] : List Str) [x0, x1, x2, x3]).lookup ("parts" : Str) = some x0 := (Eq.trans rfl rfl)
theorem pn_Stack_4_0 : putNs "parts" (["parts", "steps", "names", "depth"] : List Str) = (["parts", "steps", "names", "depth"] : List Str) := (Eq.trans rfl rfl)
theorem pv_Stack_4_0 {α : Type} {v x0 x1 x2 x3 : α} : putVs "parts" v (["parts", "steps", "names", "depth"] : List Str) [x0, x1, x2, x3] = [v, x1, x2, x3] := (Eq.trans rfl rfl)
theorem lk_Stack_4_1 {α : Type} {x0 x1 x2 x3 : α}  : (List.zip (["parts", "steps", "names", "depth"] : List Str) [x0, x1, x2, x3]).lookup ("steps" : Str) = some x1 := (Eq.trans rfl rfl)
theorem pn_Stack_4_1 : putNs "steps" (["parts", "steps", "names", "depth"] : List Str) = (["parts", "steps", "names", "depth"] : List Str) := (Eq.trans rfl rfl)
theorem pv_Stack_4_1 {α : Type} {v x0 x1 x2 x3 : α} : putVs "steps" v (["parts", "steps", "names", "depth"] : List Str) [x0, x1, x2, x3] = [x0, v, x2, x3] := (Eq.trans rfl rfl)
theorem lk_Stack_4_2 {α : Type} {x0 x1 x2 x3 : α}  : (List.zip (["parts", "steps", "names", "depth"] : List Str) [x0, x1, x2, x3]).lookup ("names" : Str) = some x2 := (Eq.trans rfl rfl)
theorem pn_Stack_4_2 : putNs "names" (["parts", "steps", "names", "depth"] : List Str) = (["parts", "steps", "names", "depth"] : List Str) := (Eq.trans rfl rfl)
theorem pv_Stack_4_2 {α : Type} {v x0 x1 x2 x3 : α} : putVs "names" v (["parts", "steps", "names", "depth"] : List Str) [x0, x1, x2, x3] = [x0, x1, v, x3] := (Eq.trans rfl rfl)
theorem lk_Stack_4_3 {α : Type} {x0 x1 x2 x3 : α}  : (List.zip (["parts", "steps", "names", "depth"] : List Str) [x0, x1, x2, x3]).lookup ("depth" : Str) = some x3 := (Eq.trans rfl rfl)
theorem pn_Stack_4_3 : putNs "depth" (["parts", "steps", "names", "depth"] : List Str) = (["parts", "steps", "names", "depth"] : List Str) := (Eq.trans rfl rfl)
theorem pv_Stack_4_3 {α : Type} {v x0 x1 x2 x3 : α} : putVs "depth" v (["parts", "steps", "names", "depth"] : List Str) [x0, x1, x2, x3] = [x0, x1, x2, v] := (Eq.trans rfl rfl)
theorem nc_Stack___add___0 : ([] : List Str).contains ("__add__" : Str) = false := (Eq.trans rfl rfl)
theorem nc_Stack___add___1 : (["parts"] : List Str).contains ("__add__" : Str) = false := (Eq.trans rfl rfl)
theorem nc_Stack___add___2 : (["parts", "steps"] : List Str).contains ("__add__" : Str) = false := (Eq.trans rfl rfl)
theorem nc_Stack___add___3 : (["parts", "steps", "names"] : List Str).contains ("__add__" : Str) = false := (Eq.trans rfl rfl)
theorem nc_Stack___add___4 : (["parts", "steps", "names", "depth"] : List Str).contains ("__add__" : Str) = false := (Eq.trans rfl rfl)
def b_is_number (cl : Nat → FC) : FS :=
  (retS (andVM (cbM (isiO clss) (consM (varM 0) (consM (cM (.ty "int")) nilM))) (andVM (notVM (cbM (isiO clss) (consM (varM 0) (consM (cM (.ty "bool")) nilM)))) (chainM leO leO (varM 1) (varM 0) (varM 2)))))
def b_is_word (cl : Nat → FC) : FS :=
  (seqS (ifS (torM (tnotM (tstM (cbM (isiO clss) (consM (varM 0) (consM (cM (.ty "str")) nilM))))) (tnotM (tstM (chainM leO leO (cM (.int 1)) (cbM lenO (consM (varM 0) nilM)) (cM (.int 8)))))) (retS (cM (.bl false))) nxS)
    (retS (cbM allO (consM (lcN [1] (itStrM (varM 0)) (nameG 1) tyesM (nxM (opM inO (varM 1) (cM (.str "abcdefghijklmnopqrstuvwxyz"))))) nilM))))
def b_is_action (cl : Nat → FC) : FS :=
  (retS (orVM (andVM (cbM (isiO clss) (consM (varM 0) (consM (cM (.ty "str")) nilM))) (opM inO (varM 0) (cM g_ACTIONS))) (callM (cl f_is_number) 3 (consM (varM 0) (consM (cM (.int 1)) (consM (cM (.int 9)) nilM))))))
def b_table_of (cl : Nat → FC) : FS :=
  (seqS (ifS (tstM (cbM (isiO clss) (consM (varM 0) (consM (cM (.ty "str")) nilM)))) noS nxS)
    (seqS (ifS (torM (tnotM (tstM (cbM (isiO clss) (consM (varM 0) (consM (cM (.ty "tuple")) nilM))))) (torM (tstM (opM neO (cbM lenO (consM (varM 0) nilM)) (cbM lenO (consM (cM g_RESULTS) nilM)))) (tnotM (tstM (cbM allO (consM (lcN [1] (itTupM (varM 0)) (nameG 1) tyesM (nxM (callM (cl f_is_action) 1 (consM (varM 1) nilM)))) nilM)))))) (retS (cM .non)) nxS)
    (retS (varM 0))))
def b_Rule_init (cl : Nat → FC) : FS :=
  (seqS (ifS (tnotM (tstM (callM (cl f_is_word) 1 (consM (varM 1) nilM)))) noS nxS)
    (seqS (ifS (tstM (opM isNO (callM (cl f_table_of) 1 (consM (varM 2) nilM)) (cM .non))) noS nxS)
    (seqS (setfS n_asks "asks" (varM 1) (varM 0))
    (setfS n_acts "acts" (callM (cl f_table_of) 1 (consM (varM 2) nilM)) (varM 0)))))
def b_Rule_action_for (cl : Nat → FC) : FS :=
  (retS (opM ixAO (fldM n_acts "acts" (varM 0)) (gIxM k_RESULTS (consM (varM 1) nilM))))
def b_Stack_init_1 (cl : Nat → FC) : FS :=
  (seqS (setS 4 (cbM (isiO clss) (consM (varM 3) (consM (cM (.cls "Stack")) nilM))))
    (seqS (ifS (torM (tstM (opM eqO (varM 2) (cM (.int 12)))) (tandM (tnotM (tstM (varM 4))) (tnotM (tstM (cbM (isiO clss) (consM (varM 3) (consM (cM (.cls "Rule")) nilM))))))) noS nxS)
    (seqS (setfS n_steps "steps" (opM addO (fldM n_steps "steps" (varM 0)) (callM (cl f_steps_of) 1 (consM (varM 3) nilM))) (varM 0))
    (seqS (setfS n_names "names" (cbM tupleO (consM (sortSetM (lcN [5] (itTupM (fldM n_steps "steps" (varM 0))) (nameG 5) tyesM (nxM (fldM n_asks "asks" (varM 5))))) nilM)) (varM 0))
    (seqS (setfS n_depth "depth" (cbM max2O (consM (fldM n_depth "depth" (varM 0)) (consM (ifM (tstM (varM 4)) (opM addO (fldM n_depth "depth" (varM 3)) (cM (.int 1))) (cM (.int 1))) nilM))) (varM 0))
    (ifS (torM (tstM (opM gtO (fldM n_depth "depth" (varM 0)) (cM (.int 3)))) (torM (tstM (opM gtO (cbM lenO (consM (fldM n_steps "steps" (varM 0)) nilM)) (cM (.int 12)))) (tstM (opM gtO (cbM lenO (consM (fldM n_names "names" (varM 0)) nilM)) (cM (.int 6)))))) noS nxS))))))
def b_Stack_init (cl : Nat → FC) : FS :=
  (seqS (setfS n_parts "parts" (varM 1) (varM 0))
    (seqS (setfS n_steps "steps" (tupM nilM) (varM 0))
    (seqS (setfS n_names "names" (tupM nilM) (varM 0))
    (seqS (setfS n_depth "depth" (cM (.int 1)) (varM 0))
    (forS (enumM (consM (varM 1) nilM)) (tupG 2 (consG (nameG 2) (consG (nameG 3) nilG))) (b_Stack_init_1 cl))))))
def b_Stack___add__ (cl : Nat → FC) : FS :=
  (seqS (setS 2 (opM addO (fldM n_parts "parts" (varM 0)) (fldM n_parts "parts" (varM 1))))
    (retS (makeM "Stack" (starC 1 (cl f_Stack_init)) (starM (varM 2)))))
def b_steps_of (cl : Nat → FC) : FS :=
  (retS (ifM (tstM (cbM (isiO clss) (consM (varM 0) (consM (cM (.cls "Stack")) nilM)))) (fldM n_steps "steps" (varM 0)) (tupM (consM (varM 0) nilM))))
def b_firsts_of_1 (cl : Nat → FC) : FS :=
  (seqS (dropS (bmC appendO (varM 2) (consM (varM 1) nilM)))
    (augS 1 (fun a b => a + b) (cbM lenO (consM (callM (cl f_steps_of) 1 (consM (varM 3) nilM)) nilM))))
def b_firsts_of (cl : Nat → FC) : FS :=
  (seqS (setS 2 (lstC nilM))
    (seqS (forS (itTupM (fldM n_parts "parts" (varM 0))) (nameG 3) (b_firsts_of_1 cl))
    (retS (frM (varM 2)))))
def b_Run_init (cl : Nat → FC) : FS :=
  (seqS (setfS n_told "told" (varM 2) (varM 0))
    (seqS (setfS n_asked_rules "asked_rules" (lstC nilM) (varM 0))
    (setfS n_mark "mark" (methW "Run" "ended" (cl f_Run_ended) 4 (varM 0) (consM (varM 1) (consM (cM (.int 0)) (consM (cM g_NONE) nilM)))) (varM 0))))
def b_Run_ended_1 (cl : Nat → FC) : FS :=
  (seqS (parS 7 8 (consM (opM ixAO (fldM n_parts "parts" (varM 1)) (varM 5)) (consM (opM ixAO (varM 6) (varM 5)) nilM)))
    (seqS (augS 5 (fun a b => a + b) (cM (.int 1)))
    (seqS (ifS (tstM (cbM (isiO clss) (consM (varM 7) (consM (cM (.cls "Stack")) nilM)))) (seqS (setS 3 (methW "Run" "ended" (cl f_Run_ended) 4 (varM 0) (consM (varM 7) (consM (varM 8) (consM (varM 3) nilM)))))
    ctS) nxS)
    (seqS (dropS (bmC appendO (fldM n_asked_rules "asked_rules" (varM 0)) (consM (varM 8) nilM)))
    (seqS (setS 9 (methM "Rule" "action_for" (cl f_Rule_action_for) 2 (varM 7) (consM (opM ixAO (fldM n_told "told" (varM 0)) (fldM n_asks "asks" (varM 7))) nilM)))
    (seqS (setS 3 (callM (cl f_marked) 4 (consM (varM 9) (consM (varM 3) (consM (varM 4) (consM (varM 8) nilM))))))
    (seqS (ifS (torM (tstM (opM eqO (varM 9) (cM (.str "die")))) (tandM (tstM (opM eqO (varM 9) (cM (.str "done")))) (tstM (opM eqO (varM 3) (cM g_GOOD))))) (retS (varM 3)) nxS)
    (ifS (tstM (cbM (isiO clss) (consM (varM 9) (consM (cM (.ty "int")) nilM)))) (augS 5 (fun a b => a + b) (varM 9)) nxS))))))))
def b_Run_ended (cl : Nat → FC) : FS :=
  (seqS (parS 4 5 (consM (varM 3) (consM (cM (.int 0)) nilM)))
    (seqS (setS 6 (callM (cl f_firsts_of) 2 (consM (varM 1) (consM (varM 2) nilM))))
    (seqS (whS (tstM (opM ltO (varM 5) (cbM lenO (consM (fldM n_parts "parts" (varM 1)) nilM)))) (b_Run_ended_1 cl) 2000)
    (retS (varM 3)))))
def b_Run_outcome (cl : Nat → FC) : FS :=
  (retS (ifM (tstM (opM eqO (fldM n_mark "mark" (varM 0)) (cM g_GOOD))) (cM (.str "in")) (cM (.str "out"))))
def b_marked (cl : Nat → FC) : FS :=
  (seqS (ifS (tstM (opM inO (varM 0) (tupM (consM (cM (.str "ok")) (consM (cM (.str "done")) nilM))))) (retS (ifM (tstM (opM eqO (varM 1) (cM g_NONE))) (cM g_GOOD) (varM 1))) nxS)
    (seqS (ifS (tstM (opM inO (varM 0) (tupM (consM (cM (.str "bad")) (consM (cM (.str "die")) nilM))))) (retS (ifM (tstM (opM eqO (opM ixAO (varM 1) (cM (.int 0))) (cM (.str "bad")))) (varM 1) (tupM (consM (cM (.str "bad")) (consM (varM 3) nilM))))) nxS)
    (retS (ifM (tstM (opM eqO (varM 0) (cM (.str "reset")))) (varM 2) (varM 1)))))
def b_need_answers_1 (cl : Nat → FC) : FS :=
  (seqS (ifS (torM (tstM (opM notInO (varM 3) (varM 0))) (tandM (tstM (opM notInO (varM 3) (varM 1))) (tstM (varM 2)))) noS nxS)
    (ifS (tandM (tstM (opM inO (varM 3) (varM 1))) (tstM (opM notInO (opM ixAO (varM 1) (varM 3)) (cM g_RESULTS)))) noS nxS))
def b_need_answers (cl : Nat → FC) : FS :=
  (forS (itSeqM (sortSetM (opM addO (cbM listPO (consM (varM 0) nilM)) (cbM listPO (consM (varM 1) nilM))))) (nameG 3) (b_need_answers_1 cl))
def b_asked (cl : Nat → FC) : FS :=
  (seqS (dropS (callM (cl f_need_answers) 3 (consM (fldM n_names "names" (varM 0)) (consM (varM 1) (consM (cM (.bl true)) nilM)))))
    (retS (frM (scopeM (frM (fldM n_asked_rules "asked_rules" (makeWN "Run" (cl f_Run_init) 3 (consM (varM 0) (consM (varM 1) nilM)))))))))
def b_blamed (cl : Nat → FC) : FS :=
  (seqS (dropS (callM (cl f_need_answers) 3 (consM (fldM n_names "names" (varM 0)) (consM (varM 1) (consM (cM (.bl true)) nilM)))))
    (retS (scopeM (opM ixAO (fldM n_mark "mark" (makeWN "Run" (cl f_Run_init) 3 (consM (varM 0) (consM (varM 1) nilM)))) (cM (.int 1))))))
def b_all_answers_1 (cl : Nat → FC) : FS :=
  (setS 1 (lc2M [3, 4] (itSeqM (varM 1)) (nameG 3) tyesM [4] (itTupM (cM g_RESULTS)) (nameG 4) tyesM (nxM (opM orO (varM 3) (dispM (consM (varM 2) (consM (varM 4) nilM)))))))
def b_all_answers (cl : Nat → FC) : FS :=
  (seqS (setS 1 (lstM (consM dnewM nilM)))
    (seqS (forS (itSeqM (varM 0)) (nameG 2) (b_all_answers_1 cl))
    (retS (varM 1))))
def b_both_outcomes (cl : Nat → FC) : FS :=
  (seqS (setS 2 (sortSetTM (opM addO (fldM n_names "names" (varM 0)) (fldM n_names "names" (varM 1)))))
    (seqS (ifS (tstM (opM gtO (cbM lenO (consM (varM 2) nilM)) (cM (.int 6)))) noS nxS)
    (retS (lcN [3] (itSeqM (callM (cl f_all_answers) 1 (consM (varM 2) nilM))) (nameG 3) tyesM (nxM (tupM (consM (varM 3) (consM (scopeM (methW "Run" "outcome" (cl f_Run_outcome) 1 (makeWN "Run" (cl f_Run_init) 3 (consM (varM 0) (consM (varM 3) nilM))) nilM)) (consM (scopeM (methW "Run" "outcome" (cl f_Run_outcome) 1 (makeWN "Run" (cl f_Run_init) 3 (consM (varM 1) (consM (varM 3) nilM))) nilM)) nilM)))))))))
def b_first_difference_1 (cl : Nat → FC) : FS :=
  (ifS (tstM (opM neO (varM 3) (varM 4))) (retS (tupM (consM (varM 2) (consM (varM 3) nilM)))) nxS)
def b_first_difference (cl : Nat → FC) : FS :=
  (seqS (forS (itSeqM (callM (cl f_both_outcomes) 2 (consM (varM 0) (consM (varM 1) nilM)))) (tupG 3 (consG (nameG 2) (consG (nameG 3) (consG (nameG 4) nilG)))) (b_first_difference_1 cl))
    (retS (cM .non)))
def b_alike (cl : Nat → FC) : FS :=
  (retS (opM isNO (callM (cl f_first_difference) 2 (consM (varM 0) (consM (varM 1) nilM))) (cM .non)))
def b_free_pairs_1 (cl : Nat → FC) : FS :=
  (seqS (parS 3 4 (consM (opM ixAO (fldM n_parts "parts" (varM 0)) (varM 2)) (consM (opM ixAO (fldM n_parts "parts" (varM 0)) (opM addO (varM 2) (cM (.int 1)))) nilM)))
    (seqS (setS 5 (opM addO (opM addO (slM (fldM n_parts "parts" (varM 0)) noPM (partM (varM 2))) (tupM (consM (varM 4) (consM (varM 3) nilM)))) (slM (fldM n_parts "parts" (varM 0)) (partM (opM addO (varM 2) (cM (.int 2)))) noPM)))
    (ifS (tstM (callM (cl f_alike) 2 (consM (varM 0) (consM (makeM "Stack" (starC 1 (cl f_Stack_init)) (starM (varM 5))) nilM)))) (dropS (bmC appendO (varM 1) (consM (varM 2) nilM))) nxS)))
def b_free_pairs (cl : Nat → FC) : FS :=
  (seqS (setS 1 (lstC nilM))
    (seqS (forS (rng1M (consM (opM subO (cbM lenO (consM (fldM n_parts "parts" (varM 0)) nilM)) (cM (.int 1))) nilM)) (nameG 2) (b_free_pairs_1 cl))
    (retS (frM (varM 1)))))
def b_l_taken (cl : Nat → FC) : FS :=
  (seqS (ifS (tstM (opM gtO (opM ixAO (varM 0) (cM (.int 3))) (cM (.int 0)))) (seqS (setS 2 (opM modO (cbM int1O (consM (opM ixAO (varM 0) (cM (.int 3))) nilM)) (varM 1)))
    (seqS (asgS (opM fdivO (opM ixAO (varM 0) (cM (.int 3))) (varM 1)) (subG (varM 0) (cM (.int 3))))
    (retS (varM 2)))) nxS)
    (seqS (asgS (opM addO (opM ixAO (varM 0) (cM (.int 1))) (cM (.int 1))) (subG (varM 0) (cM (.int 1))))
    (seqS (ifS (tstM (opM gtO (opM ixAO (varM 0) (cM (.int 1))) (cbM lenO (consM (opM ixAO (varM 0) (cM (.int 0))) nilM)))) (seqS (asgS (opM modO (cbM int1O (consM (opM addO (opM mulO (opM ixAO (varM 0) (cM (.int 2))) (cM (.int 48271))) (cM (.int 11))) nilM)) (cM (.int 2147483647))) (subG (varM 0) (cM (.int 2))))
    (retS (opM modO (cbM int1O (consM (opM fdivO (opM ixAO (varM 0) (cM (.int 2))) (cM (.int 7))) nilM)) (varM 1)))) nxS)
    (seqS (setS 3 (opM ixAO (opM ixAO (varM 0) (cM (.int 0))) (opM subO (opM ixAO (varM 0) (cM (.int 1))) (cM (.int 1)))))
    (seqS (asgS (opM modO (cbM int1O (consM (opM addO (opM addO (opM mulO (opM ixAO (varM 0) (cM (.int 2))) (cM (.int 48271))) (varM 3)) (cM (.int 11))) nilM)) (cM (.int 2147483647))) (subG (varM 0) (cM (.int 2))))
    (seqS (asgS (ifM (tstM (opM geO (varM 3) (opM powO (cM (.int 10)) (cM (.int 18))))) (opM fdivO (varM 3) (varM 1)) (cM (.int 0))) (subG (varM 0) (cM (.int 3))))
    (retS (opM modO (cbM int1O (consM (varM 3) nilM)) (varM 1)))))))))
def b_l_pick (cl : Nat → FC) : FS :=
  (retS (opM ixAO (varM 1) (callM (cl f_l_taken) 2 (consM (varM 0) (consM (cbM lenO (consM (varM 1) nilM)) nilM)))))
def b_l_table (cl : Nat → FC) : FS :=
  (seqS (setS 2 (lstC (consM (tupM (consM (cM (.str "ok")) (consM (cM (.str "bad")) (consM (cM (.str "ignore")) (consM (cM (.str "bad")) nilM))))) (consM (tupM (consM (cM (.str "ok")) (consM (cM (.str "die")) (consM (cM (.str "ignore")) (consM (cM (.str "die")) nilM))))) (consM (tupM (consM (cM (.str "done")) (consM (cM (.str "ignore")) (consM (cM (.str "ignore")) (consM (cM (.str "ignore")) nilM))))) nilM)))))
    (seqS (dropS (bmC appendO (varM 2) (consM (tupM (consM (cM (.str "ok")) (consM (cM (.str "ignore")) (consM (cM (.str "ignore")) (consM (cM (.str "ignore")) nilM))))) nilM)))
    (seqS (ifS (torM (tstM (varM 1)) (tstM (opM eqO (callM (cl f_l_taken) 2 (consM (varM 0) (consM (cM (.int 2)) nilM))) (cM (.int 0))))) (retS (opM ixAO (varM 2) (callM (cl f_l_taken) 2 (consM (varM 0) (consM (cM (.int 4)) nilM))))) nxS)
    (seqS (setS 3 (lstM (consM (cM (.str "ok")) (consM (cM (.str "bad")) (consM (cM (.str "die")) (consM (cM (.str "done")) (consM (cM (.str "ignore")) (consM (cM (.str "reset")) (consM (cM (.int 1)) (consM (cM (.int 2)) (consM (cM (.int 9)) nilM)))))))))))
    (retS (cbM tupleO (consM (lcN [4] (rng1M (consM (cM (.int 4)) nilM)) (nameG 4) tyesM (nxM (opM ixAO (varM 3) (callM (cl f_l_taken) 2 (consM (varM 0) (consM (cM (.int 9)) nilM)))))) nilM)))))))
def b_l_plain_1 (cl : Nat → FC) : FS :=
  (ifS (tandM (tstM (opM gtO (varM 3) (cM (.int 1)))) (tandM (tstM (opM gtO (varM 6) (cM (.int 0)))) (tstM (opM eqO (callM (cl f_l_taken) 2 (consM (varM 0) (consM (cM (.int 4)) nilM))) (cM (.int 0)))))) (seqS (setS 8 (callM (cl f_l_plain) 5 (consM (varM 0) (consM (varM 1) (consM (cbM min2O (consM (varM 6) (consM (cM (.int 3)) nilM))) (consM (opM subO (varM 3) (cM (.int 1))) (consM (varM 4) nilM)))))))
    (seqS (dropS (bmC appendO (varM 5) (consM (varM 8) nilM)))
    (setS 6 (opM subO (varM 6) (cbM lenO (consM (callM (cl f_l_rules) 1 (consM (varM 8) nilM)) nilM)))))) (ifS (tstM (opM gtO (varM 6) (cM (.int 0)))) (seqS (dropS (bmC appendO (varM 5) (consM (tupM (consM (callM (cl f_l_pick) 2 (consM (varM 0) (consM (varM 1) nilM))) (consM (callM (cl f_l_table) 2 (consM (varM 0) (consM (varM 4) nilM))) nilM))) nilM)))
    (setS 6 (opM subO (varM 6) (cM (.int 1))))) nxS))
def b_l_plain (cl : Nat → FC) : FS :=
  (seqS (parS 5 6 (consM (lstC nilM) (consM (varM 2) nilM)))
    (seqS (forS (rng1M (consM (callM (cl f_l_taken) 2 (consM (varM 0) (consM (cM (.int 5)) nilM))) nilM)) (nameG 7) (b_l_plain_1 cl))
    (retS (frM (varM 5)))))
def b_l_names_1 (cl : Nat → FC) : FS :=
  (dropS (bmC appendO (varM 3) (consM (bmC popAtO (varM 2) (consM (callM (cl f_l_taken) 2 (consM (varM 0) (consM (cbM lenO (consM (varM 2) nilM)) nilM))) nilM)) nilM)))
def b_l_names (cl : Nat → FC) : FS :=
  (seqS (parS 2 3 (consM (lstC (consM (cM (.str "key")) (consM (cM (.str "pin")) (consM (cM (.str "card")) (consM (cM (.str "lan")) nilM))))) (consM (lstC nilM) nilM)))
    (seqS (forS (rng1M (consM (opM addO (cM (.int 1)) (callM (cl f_l_taken) 2 (consM (varM 0) (consM (varM 1) nilM)))) nilM)) (nameG 4) (b_l_names_1 cl))
    (retS (frM (varM 3)))))
def b_l_rules_1 (cl : Nat → FC) : FS :=
  (setS 1 (opM addO (varM 1) (ifM (tstM (cbM (isiO clss) (consM (varM 2) (consM (cM (.ty "list")) nilM)))) (callM (cl f_l_rules) 1 (consM (varM 2) nilM)) (lstM (consM (varM 2) nilM)))))
def b_l_rules (cl : Nat → FC) : FS :=
  (seqS (setS 1 (lstM nilM))
    (seqS (forS (itSeqM (varM 0)) (nameG 2) (b_l_rules_1 cl))
    (retS (varM 1))))
def b_l_modules (cl : Nat → FC) : FS :=
  (retS (sortSetM (lcN [1] (itSeqM (callM (cl f_l_rules) 1 (consM (varM 0) nilM))) (nameG 1) tyesM (nxM (opM ixAO (varM 1) (cM (.int 0)))))))
def b_l_made_1 (cl : Nat → FC) : FS :=
  (setS 1 (opM (ownAddO "Stack" (cl f_Stack___add__)) (varM 1) (makeM "Stack" (starC 1 (cl f_Stack_init)) (consM (ifM (tstM (cbM (isiO clss) (consM (varM 2) (consM (cM (.ty "list")) nilM)))) (callM (cl f_l_made) 1 (consM (varM 2) nilM)) (makeN "Rule" (cl f_Rule_init) 3 (consM (opM ixAO (varM 2) (cM (.int 0))) (consM (opM ixAO (varM 2) (cM (.int 1))) nilM)))) nilM))))
def b_l_made (cl : Nat → FC) : FS :=
  (seqS (setS 1 (makeM "Stack" (starC 1 (cl f_Stack_init)) nilM))
    (seqS (forS (itSeqM (varM 0)) (nameG 2) (b_l_made_1 cl))
    (retS (varM 1))))
def b_l_all_1 (cl : Nat → FC) : FS :=
  (setS 3 (opM addO (varM 3) (lcN [5] (itTupM (tupM (consM (cM (.str "yes")) (consM (cM (.str "no")) (consM (cM (.str "skip")) (consM (cM (.str "gone")) nilM)))))) (nameG 5) tyesM (nxM (opM addO (varM 4) (tupM (consM (varM 5) nilM)))))))
def b_l_all_2 (cl : Nat → FC) : FS :=
  (seqS (setS 3 (lstM nilM))
    (seqS (forS (itSeqM (varM 1)) (nameG 4) (b_l_all_1 cl))
    (setS 1 (varM 3))))
def b_l_all (cl : Nat → FC) : FS :=
  (seqS (setS 1 (lstM (consM (tupM nilM) nilM)))
    (seqS (forS (itSeqM (varM 0)) (nameG 2) (b_l_all_2 cl))
    (retS (lcN [4] (itSeqM (varM 1)) (nameG 4) tyesM (nxM (dictZipM (consM (varM 0) (consM (varM 4) nilM))))))))
def b_l_calm_1 (cl : Nat → FC) : FS :=
  (dropS (bmC appendO (varM 4) (consM (tupM (consM (callM (cl f_l_pick) 2 (consM (varM 0) (consM (varM 1) nilM))) (consM (cbM tupleO (consM (lcN [6] (rng1M (consM (cM (.int 4)) nilM)) (nameG 6) tyesM (nxM (opM ixAO (varM 3) (callM (cl f_l_taken) 2 (consM (varM 0) (consM (cM (.int 3)) nilM)))))) nilM)) nilM))) nilM)))
def b_l_calm (cl : Nat → FC) : FS :=
  (seqS (parS 3 4 (consM (lstM (consM (cM (.str "ok")) (consM (cM (.str "bad")) (consM (cM (.str "ignore")) nilM)))) (consM (lstC nilM) nilM)))
    (seqS (forS (rng1M (consM (callM (cl f_l_taken) 2 (consM (varM 0) (consM (opM addO (varM 2) (cM (.int 1))) nilM))) nilM)) (nameG 5) (b_l_calm_1 cl))
    (retS (frM (varM 4)))))
def b_law_1 (cl : Nat → FC) : FS :=
  (seqS (ifS (tstM (opM neO (callM (cl f_asked) 2 (consM (varM 10) (consM (varM 11) nilM))) (rgListM (cbM lenO (consM (varM 4) nilM))))) (retS (cM (.bl false))) nxS)
    (ifS (tstM (opM neO (callM (cl f_blamed) 2 (consM (varM 10) (consM (varM 11) nilM))) (callM (cl f_blamed) 2 (consM (opM ixAO (varM 9) (cM (.int 0))) (consM (varM 11) nilM))))) (retS (cM (.bl false))) nxS))
def b_law_2 (cl : Nat → FC) : FS :=
  (seqS (ifS (tstM (opM notNO (callM (cl f_first_difference) 2 (consM (opM ixAO (varM 9) (cM (.int 0))) (consM (varM 10) nilM))) (cM .non))) (retS (cM (.bl false))) nxS)
    (forS (itSeqM (callM (cl f_l_all) 1 (consM (callM (cl f_l_modules) 1 (consM (varM 4) nilM)) nilM))) (nameG 11) (b_law_1 cl)))
def b_law_3 (cl : Nat → FC) : FS :=
  (seqS (ifS (tstM (opM neO (callM (cl f_asked) 2 (consM (varM 5) (consM (varM 11) nilM))) (callM (cl f_asked) 2 (consM (varM 6) (consM (varM 11) nilM))))) (retS (cM (.bl false))) nxS)
    (ifS (tstM (opM neO (callM (cl f_blamed) 2 (consM (varM 5) (consM (varM 11) nilM))) (callM (cl f_blamed) 2 (consM (varM 6) (consM (varM 11) nilM))))) (retS (cM (.bl false))) nxS))
def b_law (cl : Nat → FC) : FS :=
  (seqS (setS 1 (lstC (consM (varM 0) (consM (cM (.int 0)) (consM (cM (.int 0)) (consM (cM (.int 0)) nilM))))))
    (seqS (setS 2 (callM (cl f_l_names) 2 (consM (varM 1) (consM (cM (.int 3)) nilM))))
    (seqS (parS 3 4 (consM (callM (cl f_l_plain) 5 (consM (varM 1) (consM (varM 2) (consM (cM (.int 6)) (consM (cM (.int 2)) (consM (cM (.bl false)) nilM)))))) (consM (callM (cl f_l_calm) 3 (consM (varM 1) (consM (varM 2) (consM (cM (.int 5)) nilM)))) nilM)))
    (seqS (parS 5 6 (consM (callM (cl f_l_made) 1 (consM (varM 3) nilM)) (consM (callM (cl f_l_made) 1 (consM (lstM (consM (varM 3) nilM)) nilM)) nilM)))
    (seqS (ifS (torM (tnotM (tstM (callM (cl f_alike) 2 (consM (varM 5) (consM (varM 6) nilM))))) (tnotM (tstM (callM (cl f_alike) 2 (consM (varM 6) (consM (varM 5) nilM)))))) (retS (cM (.bl false))) nxS)
    (seqS (setS 7 (callM (cl f_l_taken) 2 (consM (varM 1) (consM (opM addO (cbM lenO (consM (varM 4) nilM)) (cM (.int 1))) nilM))))
    (seqS (setS 8 (lstM (consM (varM 4) (consM (lstM (consM (varM 4) nilM)) (consM (lcN [12] (itSeqM (varM 4)) (nameG 12) tyesM (nxM (lstM (consM (varM 12) nilM)))) (consM (lstM (consM (slM (varM 4) noPM (partM (varM 7))) (consM (lstM nilM) (consM (slM (varM 4) (partM (varM 7)) noPM) nilM)))) (consM (lstM (consM (lstM (consM (slM (varM 4) noPM (partM (varM 7))) nilM)) (consM (slM (varM 4) (partM (varM 7)) noPM) nilM))) nilM)))))))
    (seqS (setS 9 (lcN [10] (itSeqM (varM 8)) (nameG 10) tyesM (nxM (callM (cl f_l_made) 1 (consM (varM 10) nilM)))))
    (seqS (forS (itSeqM (varM 9)) (nameG 10) (b_law_2 cl))
    (seqS (forS (itSeqM (callM (cl f_l_all) 1 (consM (callM (cl f_l_modules) 1 (consM (varM 3) nilM)) nilM))) (nameG 11) (b_law_3 cl))
    (retS (opM eqO (callM (cl f_free_pairs) 1 (consM (callM (cl f_l_made) 1 (consM (lstM (consM (lstM nilM) (consM (varM 3) (consM (lstM nilM) nilM)))) nilM)) nilM)) (lstM (consM (cM (.int 0)) (consM (cM (.int 1)) nilM)))))))))))))))
def tab (cl : Nat → FC) : Nat → FC
  | 0 => bodyM 3 (b_is_number cl)
  | 1 => bodyM 2 (b_is_word cl)
  | 2 => bodyM 1 (b_is_action cl)
  | 3 => bodyM 2 (b_table_of cl)
  | 4 => bodyM 3 (b_Rule_init cl)
  | 5 => bodyM 2 (b_Rule_action_for cl)
  | 6 => bodyM 6 (b_Stack_init cl)
  | 7 => bodyM 3 (b_Stack___add__ cl)
  | 8 => bodyM 1 (b_steps_of cl)
  | 9 => bodyM 4 (b_firsts_of cl)
  | 10 => bodyM 3 (b_Run_init cl)
  | 11 => bodyM 10 (b_Run_ended cl)
  | 12 => bodyM 1 (b_Run_outcome cl)
  | 13 => bodyM 4 (b_marked cl)
  | 14 => bodyM 4 (b_need_answers cl)
  | 15 => bodyM 2 (b_asked cl)
  | 16 => bodyM 2 (b_blamed cl)
  | 17 => bodyM 5 (b_all_answers cl)
  | 18 => bodyM 4 (b_both_outcomes cl)
  | 19 => bodyM 5 (b_first_difference cl)
  | 20 => bodyM 2 (b_alike cl)
  | 21 => bodyM 6 (b_free_pairs cl)
  | 22 => bodyM 4 (b_l_taken cl)
  | 23 => bodyM 2 (b_l_pick cl)
  | 24 => bodyM 5 (b_l_table cl)
  | 25 => bodyM 9 (b_l_plain cl)
  | 26 => bodyM 5 (b_l_names cl)
  | 27 => bodyM 3 (b_l_rules cl)
  | 28 => bodyM 2 (b_l_modules cl)
  | 29 => bodyM 3 (b_l_made cl)
  | 30 => bodyM 6 (b_l_all cl)
  | 31 => bodyM 7 (b_l_calm cl)
  | 32 => bodyM 13 (b_law cl)
  | _ => fun _ _ => .no
theorem t_is_number (cl : Nat → FC) : tab cl f_is_number = bodyM 3 (b_is_number cl) := (Eq.trans rfl rfl)
theorem t_is_word (cl : Nat → FC) : tab cl f_is_word = bodyM 2 (b_is_word cl) := (Eq.trans rfl rfl)
theorem t_is_action (cl : Nat → FC) : tab cl f_is_action = bodyM 1 (b_is_action cl) := (Eq.trans rfl rfl)
theorem t_table_of (cl : Nat → FC) : tab cl f_table_of = bodyM 2 (b_table_of cl) := (Eq.trans rfl rfl)
theorem t_Rule_init (cl : Nat → FC) : tab cl f_Rule_init = bodyM 3 (b_Rule_init cl) := (Eq.trans rfl rfl)
theorem t_Rule_action_for (cl : Nat → FC) : tab cl f_Rule_action_for = bodyM 2 (b_Rule_action_for cl) := (Eq.trans rfl rfl)
theorem t_Stack_init (cl : Nat → FC) : tab cl f_Stack_init = bodyM 6 (b_Stack_init cl) := (Eq.trans rfl rfl)
theorem t_Stack___add__ (cl : Nat → FC) : tab cl f_Stack___add__ = bodyM 3 (b_Stack___add__ cl) := (Eq.trans rfl rfl)
theorem t_steps_of (cl : Nat → FC) : tab cl f_steps_of = bodyM 1 (b_steps_of cl) := (Eq.trans rfl rfl)
theorem t_firsts_of (cl : Nat → FC) : tab cl f_firsts_of = bodyM 4 (b_firsts_of cl) := (Eq.trans rfl rfl)
theorem t_Run_init (cl : Nat → FC) : tab cl f_Run_init = bodyM 3 (b_Run_init cl) := (Eq.trans rfl rfl)
theorem t_Run_ended (cl : Nat → FC) : tab cl f_Run_ended = bodyM 10 (b_Run_ended cl) := (Eq.trans rfl rfl)
theorem t_Run_outcome (cl : Nat → FC) : tab cl f_Run_outcome = bodyM 1 (b_Run_outcome cl) := (Eq.trans rfl rfl)
theorem t_marked (cl : Nat → FC) : tab cl f_marked = bodyM 4 (b_marked cl) := (Eq.trans rfl rfl)
theorem t_need_answers (cl : Nat → FC) : tab cl f_need_answers = bodyM 4 (b_need_answers cl) := (Eq.trans rfl rfl)
theorem t_asked (cl : Nat → FC) : tab cl f_asked = bodyM 2 (b_asked cl) := (Eq.trans rfl rfl)
theorem t_blamed (cl : Nat → FC) : tab cl f_blamed = bodyM 2 (b_blamed cl) := (Eq.trans rfl rfl)
theorem t_all_answers (cl : Nat → FC) : tab cl f_all_answers = bodyM 5 (b_all_answers cl) := (Eq.trans rfl rfl)
theorem t_both_outcomes (cl : Nat → FC) : tab cl f_both_outcomes = bodyM 4 (b_both_outcomes cl) := (Eq.trans rfl rfl)
theorem t_first_difference (cl : Nat → FC) : tab cl f_first_difference = bodyM 5 (b_first_difference cl) := (Eq.trans rfl rfl)
theorem t_alike (cl : Nat → FC) : tab cl f_alike = bodyM 2 (b_alike cl) := (Eq.trans rfl rfl)
theorem t_free_pairs (cl : Nat → FC) : tab cl f_free_pairs = bodyM 6 (b_free_pairs cl) := (Eq.trans rfl rfl)
theorem t_l_taken (cl : Nat → FC) : tab cl f_l_taken = bodyM 4 (b_l_taken cl) := (Eq.trans rfl rfl)
theorem t_l_pick (cl : Nat → FC) : tab cl f_l_pick = bodyM 2 (b_l_pick cl) := (Eq.trans rfl rfl)
theorem t_l_table (cl : Nat → FC) : tab cl f_l_table = bodyM 5 (b_l_table cl) := (Eq.trans rfl rfl)
theorem t_l_plain (cl : Nat → FC) : tab cl f_l_plain = bodyM 9 (b_l_plain cl) := (Eq.trans rfl rfl)
theorem t_l_names (cl : Nat → FC) : tab cl f_l_names = bodyM 5 (b_l_names cl) := (Eq.trans rfl rfl)
theorem t_l_rules (cl : Nat → FC) : tab cl f_l_rules = bodyM 3 (b_l_rules cl) := (Eq.trans rfl rfl)
theorem t_l_modules (cl : Nat → FC) : tab cl f_l_modules = bodyM 2 (b_l_modules cl) := (Eq.trans rfl rfl)
theorem t_l_made (cl : Nat → FC) : tab cl f_l_made = bodyM 3 (b_l_made cl) := (Eq.trans rfl rfl)
theorem t_l_all (cl : Nat → FC) : tab cl f_l_all = bodyM 6 (b_l_all cl) := (Eq.trans rfl rfl)
theorem t_l_calm (cl : Nat → FC) : tab cl f_l_calm = bodyM 7 (b_l_calm cl) := (Eq.trans rfl rfl)
theorem t_law (cl : Nat → FC) : tab cl f_law = bodyM 13 (b_law cl) := (Eq.trans rfl rfl)
def call : Nat → Nat → FC
  | 0 => fun _ _ _ => .no
  | n + 1 => tab (call n)
theorem call_succ (n : Nat) (f : Nat) : call (n + 1) f = tab (call n) f := (Eq.trans rfl rfl)
theorem call_at {n : Nat} (f : Nat) (h : 0 < n) : call n f = tab (call (n - 1)) f := by
  obtain ⟨m, rfl⟩ : ∃ m, n = m + 1 := ⟨n - 1, by omega⟩
  exact call_succ m f
end T

set_option Elab.async false
set_option linter.all false
set_option maxRecDepth 100000
set_option maxHeartbeats 4000000
set_option pp.maxSteps 250
namespace T
open PySem PySem.Spec L2 G P M
local macro_rules | `(tactic| simp_arith [$ls,*]) => `(tactic| simp -failIfUnchanged -dsimp only [P.evK_eq, P.optK_some, ↓P.w_ok, ↓P.w_exc, ↓P.w_no, ↓P.w_bind, ↓P.s_nx, ↓P.s_rt, ↓P.s_bk, ↓P.s_ct, ↓P.s_exc, ↓P.s_no, ↓P.s_stm, ↓P.xS_eq, ↓P.s_seqm, ↓P.s_turnm, ↓P.w_fin, ↓P.seqK_nx, ↓P.seqK_rt, ↓P.seqK_bk, ↓P.seqK_ct, ↓P.seqK_exc, ↓P.turnK_nx, ↓P.turnK_ct, ↓P.turnK_bk, ↓P.turnK_rt, ↓P.turnK_exc, ↓P.finK_nx, ↓P.finK_rt, ↓P.finK_exc, ↓P.w_var0, ↓P.upd0, ↓P.w_var1, ↓P.upd1, ↓P.w_var2, ↓P.upd2, ↓P.w_var3, ↓P.upd3, ↓P.w_var4, ↓P.upd4, ↓P.w_var5, ↓P.upd5, ↓P.w_var6, ↓P.upd6, ↓P.w_var7, ↓P.upd7, ↓P.w_var8, ↓P.upd8, ↓P.w_var9, ↓P.upd9, ↓P.w_var10, ↓P.upd10, ↓P.w_var11, ↓P.upd11, ↓P.w_var12, ↓P.upd12, ↓P.w_var13, ↓P.upd13, ↓P.w_var14, ↓P.upd14, ↓P.w_var15, ↓P.upd15, ↓P.w_var16, ↓P.upd16, ↓P.w_var17, ↓P.upd17, ↓P.w_var18, ↓P.upd18, ↓P.w_var19, ↓P.upd19, ↓P.w_var20, ↓P.upd20, ↓P.w_var21, ↓P.upd21, ↓P.w_var22, ↓P.upd22, ↓P.w_var23, ↓P.upd23, ↓P.w_var24, ↓P.upd24, ↓P.w_var25, ↓P.upd25, P.at0, P.ixN0, P.at1, P.ixN1, P.at2, P.ixN2, P.at3, P.ixN3, P.at4, P.ixN4, P.at5, P.ixN5, P.at6, P.ixN6, P.at7, P.ixN7, P.at8, P.ixN8, P.at9, P.ixN9, P.at10, P.ixN10, P.at11, P.ixN11, P.at12, P.ixN12, ↓P.w_cM, ↓P.w_opM, ↓P.w_unM, ↓P.w_blE, ↓P.w_andVM, ↓P.w_orVM, ↓P.w_notVM, ↓P.w_ifM, ↓P.w_chainM, ↓P.w_nilM, ↓P.w_consM, P.sizeL, ↓P.vals0, ↓P.vals1, ↓P.vals2, ↓P.vals3, ↓P.vals4, ↓P.vals5, ↓P.vals6, ↓P.vals7, ↓P.vals8, ↓P.vals9, ↓P.vals10, ↓P.vals11, ↓P.vals12, ↓P.w_tupM, ↓P.w_lstM, ↓P.w_lstC, ↓P.w_cbM, ↓P.w_tstM, ↓P.w_tandM, ↓P.w_torM, ↓P.w_tnotM, ↓P.w_tyesM, ↓P.s_nxS, ↓P.s_bkS, ↓P.s_ctS, ↓P.s_retN, ↓P.s_noS, ↓P.s_seqS, ↓P.s_retS, ↓P.s_dropS, ↓P.s_ifS, ↓P.s_setS, ↓P.s_asgS, ↓P.w_nameG, ↓P.w_nilG, ↓P.w_consG, ↓P.w_tupG1, ↓P.w_tupG2, ↓P.w_tupG3, ↓P.w_tupG4, ↓P.parK_eq, ↓P.par3K_eq, ↓P.s_parS, ↓P.s_par3S, ↓P.augK_eq, ↓P.s_aug0, ↓P.s_aug1, ↓P.s_aug2, ↓P.s_aug3, ↓P.s_aug4, ↓P.s_aug5, ↓P.s_aug6, ↓P.s_aug7, ↓P.s_aug8, ↓P.s_aug9, ↓P.s_aug10, ↓P.s_aug11, ↓P.s_aug12, ↓P.s_aug13, ↓P.s_aug14, ↓P.s_aug15, ↓P.s_loop0, ↓P.s_loop1, ↓P.s_forS, ↓P.cellK_eq, P.lstCK_eq, P.lstK_eq, ↓P.seqVK_l, ↓P.seqVK_f, ↓P.tupVK_eq, P.rng1K_eq, ↓P.tup1K_eq, ↓P.str1K_eq, ↓P.intK_eq, P.strsK_eq, P.v_sub, P.v_lt, P.v_le, P.v_gt, P.v_ge, ↓P.v_mul, ↓P.v_fdiv, ↓P.v_mod, P.v_pow, P.v_addI, P.v_addT, P.v_addL, P.v_eqI, P.v_neI, P.v_eqS, P.v_neS, P.v_isN, P.v_notN, ↓P.v_ixT, ↓P.v_ixL, ↓P.v_ixF, P.ixCK_l, P.ixCK_d, ↓P.v_ixC, ↓P.v_ixD, P.v_lenT, P.v_lenL, P.v_lenF, P.v_int, P.v_min2, P.v_max2, P.v_tupL, ↓P.w_callM, ↓P.w_callWN, ↓P.w_makeM, ↓P.w_makeN, ↓P.w_makeWN, ↓P.w_fldM, ↓P.v_fld, P.insK_eq, ↓P.v_fldC, ↓P.w_frM, P.v_frV, ↓P.v_frC, ↓P.w_bmC, ↓P.w_itSeqM, ↓P.w_itTupM, ↓P.w_rng1M, ↓P.w_subG, ↓P.w_setO, ↓P.v_append, ↓P.v_popAt, ↓P.w_lcN, ↓P.w_sortSetM, ↓P.w_body, ↓P.clsCK_eq, ↓P.clsK_v, ↓P.clsK_c, ↓P.w_callWn, ↓P.w_methM, ↓P.w_methW, ↓P.nonK_eq, ↓P.w_makeW, ↓P.insPK_eq, ↓P.s_setfS, ↓P.v_isi, P.tnE_v, P.tnP_non, P.tnP_bl, P.tnP_int, P.tnP_str, P.tnP_tup, P.tnP_lst, P.tnP_ins, ↓P.w_enumM, ↓P.w_starM, P.seqE_t, P.seqE_l, P.lstE_l, P.lstE_f, ↓P.w_nxM, ↓P.w_nxT, ↓P.w_propN, ↓P.w_gIxM, ↓P.w_slM, ↓P.w_noPM, ↓P.w_partM, P.v_slT, P.v_slL, P.v_frlL, ↓P.w_revM, P.v_all, P.v_any, P.blsOf_map, P.v_in2, P.v_notIn2, P.v_eq2, P.v_ne2, ↓P.w_starC, P.isB_NoneType_int, P.isB_NoneType_bool, P.isB_NoneType_str, P.isB_NoneType_tuple, P.isB_NoneType_list, P.isB_NoneType_dict, P.isB_int_int, P.isB_int_bool, P.isB_int_str, P.isB_int_tuple, P.isB_int_list, P.isB_int_dict, P.isB_bool_int, P.isB_bool_bool, P.isB_bool_str, P.isB_bool_tuple, P.isB_bool_list, P.isB_bool_dict, P.isB_str_int, P.isB_str_bool, P.isB_str_str, P.isB_str_tuple, P.isB_str_list, P.isB_str_dict, P.isB_tuple_int, P.isB_tuple_bool, P.isB_tuple_str, P.isB_tuple_tuple, P.isB_tuple_list, P.isB_tuple_dict, P.isB_list_int, P.isB_list_bool, P.isB_list_str, P.isB_list_tuple, P.isB_list_list, P.isB_list_dict, P.isB_dict_int, P.isB_dict_bool, P.isB_dict_str, P.isB_dict_tuple, P.isB_dict_list, P.isB_dict_dict, P.valsE_nil, P.valsE_v, P.valsE_c, P.valsE_n, ↓P.valK_eq, ↓P.w_scope, P.startE_eq, ↓P.turnI_nx, ↓P.turnI_ct, ↓P.turnI_bk, ↓P.turnI_rt, ↓P.turnI_exc, ↓P.w_lc0, ↓P.w_lc1, P.ofString_inj, P.eqB_int, P.eqB_str, P.wipeR_nil, P.wipeR_cons, P.v_lenS, P.v_lenC, P.strVK_eq, ↓P.w_itStrM, P.dctE_d, P.dctE_t, P.dctE_l, P.dctE_f, P.v_listT, P.v_listL, P.v_listD, P.v_sortD, P.v_sortL, P.v_dictL, P.v_dictD, P.dzK_eq, ↓P.w_dictZip, P.strsOf_mapS, ↓P.w_tupIxM, ↓P.w_ownAdd, ↓P.w_dnew, ↓P.w_disp, P.dispK_1, P.keyP_str, P.v_orD, ↓P.w_sortSetTM, ↓P.w_lc2, P.strsK_app, P.rgK_eq, ↓P.w_rgList, T.fc_acts_Rule, T.fc_asked_rules_Run, T.fc_asks_Rule, T.fc_depth_Stack, T.fc_mark_Run, T.fc_names_Stack, T.fc_parts_Stack, T.fc_steps_Stack, T.fc_told_Run, T.ib_Rule, T.io_Rule_Rule, T.io_Rule_Run, T.io_Rule_Stack, T.iy_Rule_int, T.iy_Rule_bool, T.iy_Rule_str, T.iy_Rule_tuple, T.iy_Rule_list, T.iy_Rule_dict, T.ib_Run, T.io_Run_Rule, T.io_Run_Run, T.io_Run_Stack, T.iy_Run_int, T.iy_Run_bool, T.iy_Run_str, T.iy_Run_tuple, T.iy_Run_list, T.iy_Run_dict, T.ib_Stack, T.io_Stack_Rule, T.io_Stack_Run, T.io_Stack_Stack, T.iy_Stack_int, T.iy_Stack_bool, T.iy_Stack_str, T.iy_Stack_tuple, T.iy_Stack_list, T.iy_Stack_dict, T.pn_Rule_0, T.pv_Rule_0, T.lk_Rule_1_0, T.pn_Rule_1_0, T.pv_Rule_1_0, T.pn_Rule_1, T.pv_Rule_1, T.lk_Rule_2_0, T.pn_Rule_2_0, T.pv_Rule_2_0, T.lk_Rule_2_1, T.pn_Rule_2_1, T.pv_Rule_2_1, T.nc_Rule_action_for_0, T.nc_Rule_action_for_1, T.nc_Rule_action_for_2, T.pn_Run_0, T.pv_Run_0, T.lk_Run_1_0, T.pn_Run_1_0, T.pv_Run_1_0, T.pn_Run_1, T.pv_Run_1, T.lk_Run_2_0, T.pn_Run_2_0, T.pv_Run_2_0, T.lk_Run_2_1, T.pn_Run_2_1, T.pv_Run_2_1, T.pn_Run_2, T.pv_Run_2, T.lk_Run_3_0, T.pn_Run_3_0, T.pv_Run_3_0, T.lk_Run_3_1, T.pn_Run_3_1, T.pv_Run_3_1, T.lk_Run_3_2, T.pn_Run_3_2, T.pv_Run_3_2, T.nc_Run_ended_0, T.nc_Run_ended_1, T.nc_Run_ended_2, T.nc_Run_ended_3, T.nc_Run_outcome_0, T.nc_Run_outcome_1, T.nc_Run_outcome_2, T.nc_Run_outcome_3, T.pn_Stack_0, T.pv_Stack_0, T.lk_Stack_1_0, T.pn_Stack_1_0, T.pv_Stack_1_0, T.pn_Stack_1, T.pv_Stack_1, T.lk_Stack_2_0, T.pn_Stack_2_0, T.pv_Stack_2_0, T.lk_Stack_2_1, T.pn_Stack_2_1, T.pv_Stack_2_1, T.pn_Stack_2, T.pv_Stack_2, T.lk_Stack_3_0, T.pn_Stack_3_0, T.pv_Stack_3_0, T.lk_Stack_3_1, T.pn_Stack_3_1, T.pv_Stack_3_1, T.lk_Stack_3_2, T.pn_Stack_3_2, T.pv_Stack_3_2, T.pn_Stack_3, T.pv_Stack_3, T.lk_Stack_4_0, T.pn_Stack_4_0, T.pv_Stack_4_0, T.lk_Stack_4_1, T.pn_Stack_4_1, T.pv_Stack_4_1, T.lk_Stack_4_2, T.pn_Stack_4_2, T.pv_Stack_4_2, T.lk_Stack_4_3, T.pn_Stack_4_3, T.pv_Stack_4_3, T.nc_Stack___add___0, T.nc_Stack___add___1, T.nc_Stack___add___2, T.nc_Stack___add___3, T.nc_Stack___add___4, eq_self, decide_true, decide_false, String.reduceEq, String.reduceNe, Bool.not_eq_eq_eq_not, List.length_map, List.map_cons, List.map_nil, List.replicate_succ, List.replicate_zero, decide_eq_true_eq, decide_eq_false_iff_not, Bool.not_eq_true', Bool.not_eq_false', Bool.not_true, Bool.not_false, if_true, if_false, List.getElem?_cons_zero, List.getElem?_cons_succ, List.set_cons_zero, List.set_cons_succ, List.cons_append, List.nil_append, List.length_cons, List.length_nil, and_true, true_and, ↓reduceIte, reduceCtorEq, Int.reduceLT, Int.reduceLE, Int.reduceEq, Int.reduceNe, Int.reduceAdd, Int.reduceSub, Int.reduceMul, Int.reduceDiv, Int.reduceMod, Int.reducePow, Int.reduceNeg, Int.reduceToNat, P.natAbs10, Nat.reduceAdd, Nat.reduceSub, Nat.reduceMul, Nat.reduceLT, Nat.reduceLeDiff, Nat.reduceEqDiff, Nat.reducePow, or_true, true_or, and_self, not_true_eq_false, not_false_eq_true, Bool.false_eq_true, Bool.true_eq_false, $ls,*])
theorem g_RESULTS_eq : g_RESULTS = .tup [.str "yes", .str "no", .str "skip", .str "gone"] := (Eq.trans rfl rfl)
/-! ### marks -/
theorem in_ok (a : Actn) {μ : Sto} : inB (.v a.pv) (.v (.tup [.str "ok", .str "done"])) μ = some (decide (a = .ok ∨ a = .done)) := by cases a <;> rfl
theorem in_bad (a : Actn) {μ : Sto} : inB (.v a.pv) (.v (.tup [.str "bad", .str "die"])) μ = some (decide (a = .bad ∨ a = .die)) := by cases a <;> rfl
theorem eq_reset (a : Actn) : eqB a.pv (.str "reset") = some (decide (a = .reset)) := by cases a <;> first | rfl | exact eqB_ne rfl rfl (Nat.zero_le _) (Nat.zero_le _) (by intro h; cases h)
theorem eq_die (a : Actn) : eqB a.pv (.str "die") = some (decide (a = .die)) := by cases a <;> first | rfl | exact eqB_ne rfl rfl (Nat.zero_le _) (Nat.zero_le _) (by intro h; cases h)
theorem eq_done (a : Actn) : eqB a.pv (.str "done") = some (decide (a = .done)) := by cases a <;> first | rfl | exact eqB_ne rfl rfl (Nat.zero_le _) (Nat.zero_le _) (by intro h; cases h)
local macro_rules | `(tactic| simp_arith [$ls,*]) => `(tactic| simp -failIfUnchanged -dsimp only [P.evK_eq, P.optK_some, ↓P.w_ok, ↓P.w_exc, ↓P.w_no, ↓P.w_bind, ↓P.s_nx, ↓P.s_rt, ↓P.s_bk, ↓P.s_ct, ↓P.s_exc, ↓P.s_no, ↓P.s_stm, ↓P.xS_eq, ↓P.s_seqm, ↓P.s_turnm, ↓P.w_fin, ↓P.seqK_nx, ↓P.seqK_rt, ↓P.seqK_bk, ↓P.seqK_ct, ↓P.seqK_exc, ↓P.turnK_nx, ↓P.turnK_ct, ↓P.turnK_bk, ↓P.turnK_rt, ↓P.turnK_exc, ↓P.finK_nx, ↓P.finK_rt, ↓P.finK_exc, ↓P.w_var0, ↓P.upd0, ↓P.w_var1, ↓P.upd1, ↓P.w_var2, ↓P.upd2, ↓P.w_var3, ↓P.upd3, ↓P.w_var4, ↓P.upd4, ↓P.w_var5, ↓P.upd5, ↓P.w_var6, ↓P.upd6, ↓P.w_var7, ↓P.upd7, ↓P.w_var8, ↓P.upd8, ↓P.w_var9, ↓P.upd9, ↓P.w_var10, ↓P.upd10, ↓P.w_var11, ↓P.upd11, ↓P.w_var12, ↓P.upd12, ↓P.w_var13, ↓P.upd13, ↓P.w_var14, ↓P.upd14, ↓P.w_var15, ↓P.upd15, ↓P.w_var16, ↓P.upd16, ↓P.w_var17, ↓P.upd17, ↓P.w_var18, ↓P.upd18, ↓P.w_var19, ↓P.upd19, ↓P.w_var20, ↓P.upd20, ↓P.w_var21, ↓P.upd21, ↓P.w_var22, ↓P.upd22, ↓P.w_var23, ↓P.upd23, ↓P.w_var24, ↓P.upd24, ↓P.w_var25, ↓P.upd25, P.at0, P.ixN0, P.at1, P.ixN1, P.at2, P.ixN2, P.at3, P.ixN3, P.at4, P.ixN4, P.at5, P.ixN5, P.at6, P.ixN6, P.at7, P.ixN7, P.at8, P.ixN8, P.at9, P.ixN9, P.at10, P.ixN10, P.at11, P.ixN11, P.at12, P.ixN12, ↓P.w_cM, ↓P.w_opM, ↓P.w_unM, ↓P.w_blE, ↓P.w_andVM, ↓P.w_orVM, ↓P.w_notVM, ↓P.w_ifM, ↓P.w_chainM, ↓P.w_nilM, ↓P.w_consM, P.sizeL, ↓P.vals0, ↓P.vals1, ↓P.vals2, ↓P.vals3, ↓P.vals4, ↓P.vals5, ↓P.vals6, ↓P.vals7, ↓P.vals8, ↓P.vals9, ↓P.vals10, ↓P.vals11, ↓P.vals12, ↓P.w_tupM, ↓P.w_lstM, ↓P.w_lstC, ↓P.w_cbM, ↓P.w_tstM, ↓P.w_tandM, ↓P.w_torM, ↓P.w_tnotM, ↓P.w_tyesM, ↓P.s_nxS, ↓P.s_bkS, ↓P.s_ctS, ↓P.s_retN, ↓P.s_noS, ↓P.s_seqS, ↓P.s_retS, ↓P.s_dropS, ↓P.s_ifS, ↓P.s_setS, ↓P.s_asgS, ↓P.w_nameG, ↓P.w_nilG, ↓P.w_consG, ↓P.w_tupG1, ↓P.w_tupG2, ↓P.w_tupG3, ↓P.w_tupG4, ↓P.parK_eq, ↓P.par3K_eq, ↓P.s_parS, ↓P.s_par3S, ↓P.augK_eq, ↓P.s_aug0, ↓P.s_aug1, ↓P.s_aug2, ↓P.s_aug3, ↓P.s_aug4, ↓P.s_aug5, ↓P.s_aug6, ↓P.s_aug7, ↓P.s_aug8, ↓P.s_aug9, ↓P.s_aug10, ↓P.s_aug11, ↓P.s_aug12, ↓P.s_aug13, ↓P.s_aug14, ↓P.s_aug15, ↓P.s_loop0, ↓P.s_loop1, ↓P.s_forS, ↓P.cellK_eq, P.lstCK_eq, P.lstK_eq, ↓P.seqVK_l, ↓P.seqVK_f, ↓P.tupVK_eq, P.rng1K_eq, ↓P.tup1K_eq, ↓P.str1K_eq, ↓P.intK_eq, P.strsK_eq, P.v_sub, P.v_lt, P.v_le, P.v_gt, P.v_ge, ↓P.v_mul, ↓P.v_fdiv, ↓P.v_mod, P.v_pow, P.v_addI, P.v_addT, P.v_addL, P.v_eqI, P.v_neI, P.v_eqS, P.v_neS, P.v_isN, P.v_notN, ↓P.v_ixT, ↓P.v_ixL, ↓P.v_ixF, P.ixCK_l, P.ixCK_d, ↓P.v_ixC, ↓P.v_ixD, P.v_lenT, P.v_lenL, P.v_lenF, P.v_int, P.v_min2, P.v_max2, P.v_tupL, ↓P.w_callM, ↓P.w_callWN, ↓P.w_makeM, ↓P.w_makeN, ↓P.w_makeWN, ↓P.w_fldM, ↓P.v_fld, P.insK_eq, ↓P.v_fldC, ↓P.w_frM, P.v_frV, ↓P.v_frC, ↓P.w_bmC, ↓P.w_itSeqM, ↓P.w_itTupM, ↓P.w_rng1M, ↓P.w_subG, ↓P.w_setO, ↓P.v_append, ↓P.v_popAt, ↓P.w_lcN, ↓P.w_sortSetM, ↓P.w_body, ↓P.clsCK_eq, ↓P.clsK_v, ↓P.clsK_c, ↓P.w_callWn, ↓P.w_methM, ↓P.w_methW, ↓P.nonK_eq, ↓P.w_makeW, ↓P.insPK_eq, ↓P.s_setfS, ↓P.v_isi, P.tnE_v, P.tnP_non, P.tnP_bl, P.tnP_int, P.tnP_str, P.tnP_tup, P.tnP_lst, P.tnP_ins, ↓P.w_enumM, ↓P.w_starM, P.seqE_t, P.seqE_l, P.lstE_l, P.lstE_f, ↓P.w_nxM, ↓P.w_nxT, ↓P.w_propN, ↓P.w_gIxM, ↓P.w_slM, ↓P.w_noPM, ↓P.w_partM, P.v_slT, P.v_slL, P.v_frlL, ↓P.w_revM, P.v_all, P.v_any, P.blsOf_map, P.v_in2, P.v_notIn2, P.v_eq2, P.v_ne2, ↓P.w_starC, P.isB_NoneType_int, P.isB_NoneType_bool, P.isB_NoneType_str, P.isB_NoneType_tuple, P.isB_NoneType_list, P.isB_NoneType_dict, P.isB_int_int, P.isB_int_bool, P.isB_int_str, P.isB_int_tuple, P.isB_int_list, P.isB_int_dict, P.isB_bool_int, P.isB_bool_bool, P.isB_bool_str, P.isB_bool_tuple, P.isB_bool_list, P.isB_bool_dict, P.isB_str_int, P.isB_str_bool, P.isB_str_str, P.isB_str_tuple, P.isB_str_list, P.isB_str_dict, P.isB_tuple_int, P.isB_tuple_bool, P.isB_tuple_str, P.isB_tuple_tuple, P.isB_tuple_list, P.isB_tuple_dict, P.isB_list_int, P.isB_list_bool, P.isB_list_str, P.isB_list_tuple, P.isB_list_list, P.isB_list_dict, P.isB_dict_int, P.isB_dict_bool, P.isB_dict_str, P.isB_dict_tuple, P.isB_dict_list, P.isB_dict_dict, P.valsE_nil, P.valsE_v, P.valsE_c, P.valsE_n, ↓P.valK_eq, ↓P.w_scope, P.startE_eq, ↓P.turnI_nx, ↓P.turnI_ct, ↓P.turnI_bk, ↓P.turnI_rt, ↓P.turnI_exc, ↓P.w_lc0, ↓P.w_lc1, P.ofString_inj, P.eqB_int, P.eqB_str, P.wipeR_nil, P.wipeR_cons, P.v_lenS, P.v_lenC, P.strVK_eq, ↓P.w_itStrM, P.dctE_d, P.dctE_t, P.dctE_l, P.dctE_f, P.v_listT, P.v_listL, P.v_listD, P.v_sortD, P.v_sortL, P.v_dictL, P.v_dictD, P.dzK_eq, ↓P.w_dictZip, P.strsOf_mapS, ↓P.w_tupIxM, ↓P.w_ownAdd, ↓P.w_dnew, ↓P.w_disp, P.dispK_1, P.keyP_str, P.v_orD, ↓P.w_sortSetTM, ↓P.w_lc2, P.strsK_app, P.rgK_eq, ↓P.w_rgList, T.fc_acts_Rule, T.fc_asked_rules_Run, T.fc_asks_Rule, T.fc_depth_Stack, T.fc_mark_Run, T.fc_names_Stack, T.fc_parts_Stack, T.fc_steps_Stack, T.fc_told_Run, T.ib_Rule, T.io_Rule_Rule, T.io_Rule_Run, T.io_Rule_Stack, T.iy_Rule_int, T.iy_Rule_bool, T.iy_Rule_str, T.iy_Rule_tuple, T.iy_Rule_list, T.iy_Rule_dict, T.ib_Run, T.io_Run_Rule, T.io_Run_Run, T.io_Run_Stack, T.iy_Run_int, T.iy_Run_bool, T.iy_Run_str, T.iy_Run_tuple, T.iy_Run_list, T.iy_Run_dict, T.ib_Stack, T.io_Stack_Rule, T.io_Stack_Run, T.io_Stack_Stack, T.iy_Stack_int, T.iy_Stack_bool, T.iy_Stack_str, T.iy_Stack_tuple, T.iy_Stack_list, T.iy_Stack_dict, T.pn_Rule_0, T.pv_Rule_0, T.lk_Rule_1_0, T.pn_Rule_1_0, T.pv_Rule_1_0, T.pn_Rule_1, T.pv_Rule_1, T.lk_Rule_2_0, T.pn_Rule_2_0, T.pv_Rule_2_0, T.lk_Rule_2_1, T.pn_Rule_2_1, T.pv_Rule_2_1, T.nc_Rule_action_for_0, T.nc_Rule_action_for_1, T.nc_Rule_action_for_2, T.pn_Run_0, T.pv_Run_0, T.lk_Run_1_0, T.pn_Run_1_0, T.pv_Run_1_0, T.pn_Run_1, T.pv_Run_1, T.lk_Run_2_0, T.pn_Run_2_0, T.pv_Run_2_0, T.lk_Run_2_1, T.pn_Run_2_1, T.pv_Run_2_1, T.pn_Run_2, T.pv_Run_2, T.lk_Run_3_0, T.pn_Run_3_0, T.pv_Run_3_0, T.lk_Run_3_1, T.pn_Run_3_1, T.pv_Run_3_1, T.lk_Run_3_2, T.pn_Run_3_2, T.pv_Run_3_2, T.nc_Run_ended_0, T.nc_Run_ended_1, T.nc_Run_ended_2, T.nc_Run_ended_3, T.nc_Run_outcome_0, T.nc_Run_outcome_1, T.nc_Run_outcome_2, T.nc_Run_outcome_3, T.pn_Stack_0, T.pv_Stack_0, T.lk_Stack_1_0, T.pn_Stack_1_0, T.pv_Stack_1_0, T.pn_Stack_1, T.pv_Stack_1, T.lk_Stack_2_0, T.pn_Stack_2_0, T.pv_Stack_2_0, T.lk_Stack_2_1, T.pn_Stack_2_1, T.pv_Stack_2_1, T.pn_Stack_2, T.pv_Stack_2, T.lk_Stack_3_0, T.pn_Stack_3_0, T.pv_Stack_3_0, T.lk_Stack_3_1, T.pn_Stack_3_1, T.pv_Stack_3_1, T.lk_Stack_3_2, T.pn_Stack_3_2, T.pv_Stack_3_2, T.pn_Stack_3, T.pv_Stack_3, T.lk_Stack_4_0, T.pn_Stack_4_0, T.pv_Stack_4_0, T.lk_Stack_4_1, T.pn_Stack_4_1, T.pv_Stack_4_1, T.lk_Stack_4_2, T.pn_Stack_4_2, T.pv_Stack_4_2, T.lk_Stack_4_3, T.pn_Stack_4_3, T.pv_Stack_4_3, T.nc_Stack___add___0, T.nc_Stack___add___1, T.nc_Stack___add___2, T.nc_Stack___add___3, T.nc_Stack___add___4, T.in_ok, T.in_bad, T.eq_reset, T.eq_die, T.eq_done, eq_self, decide_true, decide_false, String.reduceEq, String.reduceNe, Bool.not_eq_eq_eq_not, List.length_map, List.map_cons, List.map_nil, List.replicate_succ, List.replicate_zero, decide_eq_true_eq, decide_eq_false_iff_not, Bool.not_eq_true', Bool.not_eq_false', Bool.not_true, Bool.not_false, if_true, if_false, List.getElem?_cons_zero, List.getElem?_cons_succ, List.set_cons_zero, List.set_cons_succ, List.cons_append, List.nil_append, List.length_cons, List.length_nil, and_true, true_and, ↓reduceIte, reduceCtorEq, Int.reduceLT, Int.reduceLE, Int.reduceEq, Int.reduceNe, Int.reduceAdd, Int.reduceSub, Int.reduceMul, Int.reduceDiv, Int.reduceMod, Int.reducePow, Int.reduceNeg, Int.reduceToNat, P.natAbs10, Nat.reduceAdd, Nat.reduceSub, Nat.reduceMul, Nat.reduceLT, Nat.reduceLeDiff, Nat.reduceEqDiff, Nat.reducePow, or_true, true_or, and_self, not_true_eq_false, not_false_eq_true, Bool.false_eq_true, Bool.true_eq_false, $ls,*])
theorem clean_mark (m : Mark) : pclean m.pv = true := by cases m <;> rfl
theorem deep_mark (m : Mark) : pdeep m.pv ≤ 64 := by cases m <;> simp [Mark.pv, pdeep, pdeepA]
theorem mark_inj {m k : Mark} : m.pv = k.pv ↔ m = k := by
  constructor
  · intro h
    cases m <;> cases k <;> simp only [Mark.pv, PV.tup.injEq, List.cons.injEq, PV.str.injEq, PV.int.injEq, reduceCtorEq, and_true, true_and, and_false] at h
    · rfl
    · exact absurd h (by decide +kernel)
    · exact absurd h (by decide +kernel)
    · rfl
    · rw [Int.ofNat.inj h]
  · rintro rfl; rfl
theorem eq_mark (m k : Mark) : eqB m.pv k.pv = some (decide (m = k)) := by
  obtain ⟨b, h1, h2⟩ := eqB_clean (clean_mark m) (clean_mark k) (deep_mark m) (deep_mark k)
  rw [h1, mark_inj] at *
  cases b with
  | true => rw [decide_eq_true (h2.mp rfl)]
  | false => rw [decide_eq_false (fun z => by have := h2.mpr z; cases this)]
theorem eq_none (m : Mark) : eqB m.pv g_NONE = some (decide (m = .none)) := eq_mark m .none
theorem eq_good (m : Mark) : eqB m.pv g_GOOD = some (decide (m = .good)) := eq_mark m .good
local macro_rules | `(tactic| simp_arith [$ls,*]) => `(tactic| simp -failIfUnchanged -dsimp only [P.evK_eq, P.optK_some, ↓P.w_ok, ↓P.w_exc, ↓P.w_no, ↓P.w_bind, ↓P.s_nx, ↓P.s_rt, ↓P.s_bk, ↓P.s_ct, ↓P.s_exc, ↓P.s_no, ↓P.s_stm, ↓P.xS_eq, ↓P.s_seqm, ↓P.s_turnm, ↓P.w_fin, ↓P.seqK_nx, ↓P.seqK_rt, ↓P.seqK_bk, ↓P.seqK_ct, ↓P.seqK_exc, ↓P.turnK_nx, ↓P.turnK_ct, ↓P.turnK_bk, ↓P.turnK_rt, ↓P.turnK_exc, ↓P.finK_nx, ↓P.finK_rt, ↓P.finK_exc, ↓P.w_var0, ↓P.upd0, ↓P.w_var1, ↓P.upd1, ↓P.w_var2, ↓P.upd2, ↓P.w_var3, ↓P.upd3, ↓P.w_var4, ↓P.upd4, ↓P.w_var5, ↓P.upd5, ↓P.w_var6, ↓P.upd6, ↓P.w_var7, ↓P.upd7, ↓P.w_var8, ↓P.upd8, ↓P.w_var9, ↓P.upd9, ↓P.w_var10, ↓P.upd10, ↓P.w_var11, ↓P.upd11, ↓P.w_var12, ↓P.upd12, ↓P.w_var13, ↓P.upd13, ↓P.w_var14, ↓P.upd14, ↓P.w_var15, ↓P.upd15, ↓P.w_var16, ↓P.upd16, ↓P.w_var17, ↓P.upd17, ↓P.w_var18, ↓P.upd18, ↓P.w_var19, ↓P.upd19, ↓P.w_var20, ↓P.upd20, ↓P.w_var21, ↓P.upd21, ↓P.w_var22, ↓P.upd22, ↓P.w_var23, ↓P.upd23, ↓P.w_var24, ↓P.upd24, ↓P.w_var25, ↓P.upd25, P.at0, P.ixN0, P.at1, P.ixN1, P.at2, P.ixN2, P.at3, P.ixN3, P.at4, P.ixN4, P.at5, P.ixN5, P.at6, P.ixN6, P.at7, P.ixN7, P.at8, P.ixN8, P.at9, P.ixN9, P.at10, P.ixN10, P.at11, P.ixN11, P.at12, P.ixN12, ↓P.w_cM, ↓P.w_opM, ↓P.w_unM, ↓P.w_blE, ↓P.w_andVM, ↓P.w_orVM, ↓P.w_notVM, ↓P.w_ifM, ↓P.w_chainM, ↓P.w_nilM, ↓P.w_consM, P.sizeL, ↓P.vals0, ↓P.vals1, ↓P.vals2, ↓P.vals3, ↓P.vals4, ↓P.vals5, ↓P.vals6, ↓P.vals7, ↓P.vals8, ↓P.vals9, ↓P.vals10, ↓P.vals11, ↓P.vals12, ↓P.w_tupM, ↓P.w_lstM, ↓P.w_lstC, ↓P.w_cbM, ↓P.w_tstM, ↓P.w_tandM, ↓P.w_torM, ↓P.w_tnotM, ↓P.w_tyesM, ↓P.s_nxS, ↓P.s_bkS, ↓P.s_ctS, ↓P.s_retN, ↓P.s_noS, ↓P.s_seqS, ↓P.s_retS, ↓P.s_dropS, ↓P.s_ifS, ↓P.s_setS, ↓P.s_asgS, ↓P.w_nameG, ↓P.w_nilG, ↓P.w_consG, ↓P.w_tupG1, ↓P.w_tupG2, ↓P.w_tupG3, ↓P.w_tupG4, ↓P.parK_eq, ↓P.par3K_eq, ↓P.s_parS, ↓P.s_par3S, ↓P.augK_eq, ↓P.s_aug0, ↓P.s_aug1, ↓P.s_aug2, ↓P.s_aug3, ↓P.s_aug4, ↓P.s_aug5, ↓P.s_aug6, ↓P.s_aug7, ↓P.s_aug8, ↓P.s_aug9, ↓P.s_aug10, ↓P.s_aug11, ↓P.s_aug12, ↓P.s_aug13, ↓P.s_aug14, ↓P.s_aug15, ↓P.s_loop0, ↓P.s_loop1, ↓P.s_forS, ↓P.cellK_eq, P.lstCK_eq, P.lstK_eq, ↓P.seqVK_l, ↓P.seqVK_f, ↓P.tupVK_eq, P.rng1K_eq, ↓P.tup1K_eq, ↓P.str1K_eq, ↓P.intK_eq, P.strsK_eq, P.v_sub, P.v_lt, P.v_le, P.v_gt, P.v_ge, ↓P.v_mul, ↓P.v_fdiv, ↓P.v_mod, P.v_pow, P.v_addI, P.v_addT, P.v_addL, P.v_eqI, P.v_neI, P.v_eqS, P.v_neS, P.v_isN, P.v_notN, ↓P.v_ixT, ↓P.v_ixL, ↓P.v_ixF, P.ixCK_l, P.ixCK_d, ↓P.v_ixC, ↓P.v_ixD, P.v_lenT, P.v_lenL, P.v_lenF, P.v_int, P.v_min2, P.v_max2, P.v_tupL, ↓P.w_callM, ↓P.w_callWN, ↓P.w_makeM, ↓P.w_makeN, ↓P.w_makeWN, ↓P.w_fldM, ↓P.v_fld, P.insK_eq, ↓P.v_fldC, ↓P.w_frM, P.v_frV, ↓P.v_frC, ↓P.w_bmC, ↓P.w_itSeqM, ↓P.w_itTupM, ↓P.w_rng1M, ↓P.w_subG, ↓P.w_setO, ↓P.v_append, ↓P.v_popAt, ↓P.w_lcN, ↓P.w_sortSetM, ↓P.w_body, ↓P.clsCK_eq, ↓P.clsK_v, ↓P.clsK_c, ↓P.w_callWn, ↓P.w_methM, ↓P.w_methW, ↓P.nonK_eq, ↓P.w_makeW, ↓P.insPK_eq, ↓P.s_setfS, ↓P.v_isi, P.tnE_v, P.tnP_non, P.tnP_bl, P.tnP_int, P.tnP_str, P.tnP_tup, P.tnP_lst, P.tnP_ins, ↓P.w_enumM, ↓P.w_starM, P.seqE_t, P.seqE_l, P.lstE_l, P.lstE_f, ↓P.w_nxM, ↓P.w_nxT, ↓P.w_propN, ↓P.w_gIxM, ↓P.w_slM, ↓P.w_noPM, ↓P.w_partM, P.v_slT, P.v_slL, P.v_frlL, ↓P.w_revM, P.v_all, P.v_any, P.blsOf_map, P.v_in2, P.v_notIn2, P.v_eq2, P.v_ne2, ↓P.w_starC, P.isB_NoneType_int, P.isB_NoneType_bool, P.isB_NoneType_str, P.isB_NoneType_tuple, P.isB_NoneType_list, P.isB_NoneType_dict, P.isB_int_int, P.isB_int_bool, P.isB_int_str, P.isB_int_tuple, P.isB_int_list, P.isB_int_dict, P.isB_bool_int, P.isB_bool_bool, P.isB_bool_str, P.isB_bool_tuple, P.isB_bool_list, P.isB_bool_dict, P.isB_str_int, P.isB_str_bool, P.isB_str_str, P.isB_str_tuple, P.isB_str_list, P.isB_str_dict, P.isB_tuple_int, P.isB_tuple_bool, P.isB_tuple_str, P.isB_tuple_tuple, P.isB_tuple_list, P.isB_tuple_dict, P.isB_list_int, P.isB_list_bool, P.isB_list_str, P.isB_list_tuple, P.isB_list_list, P.isB_list_dict, P.isB_dict_int, P.isB_dict_bool, P.isB_dict_str, P.isB_dict_tuple, P.isB_dict_list, P.isB_dict_dict, P.valsE_nil, P.valsE_v, P.valsE_c, P.valsE_n, ↓P.valK_eq, ↓P.w_scope, P.startE_eq, ↓P.turnI_nx, ↓P.turnI_ct, ↓P.turnI_bk, ↓P.turnI_rt, ↓P.turnI_exc, ↓P.w_lc0, ↓P.w_lc1, P.ofString_inj, P.eqB_int, P.eqB_str, P.wipeR_nil, P.wipeR_cons, P.v_lenS, P.v_lenC, P.strVK_eq, ↓P.w_itStrM, P.dctE_d, P.dctE_t, P.dctE_l, P.dctE_f, P.v_listT, P.v_listL, P.v_listD, P.v_sortD, P.v_sortL, P.v_dictL, P.v_dictD, P.dzK_eq, ↓P.w_dictZip, P.strsOf_mapS, ↓P.w_tupIxM, ↓P.w_ownAdd, ↓P.w_dnew, ↓P.w_disp, P.dispK_1, P.keyP_str, P.v_orD, ↓P.w_sortSetTM, ↓P.w_lc2, P.strsK_app, P.rgK_eq, ↓P.w_rgList, T.fc_acts_Rule, T.fc_asked_rules_Run, T.fc_asks_Rule, T.fc_depth_Stack, T.fc_mark_Run, T.fc_names_Stack, T.fc_parts_Stack, T.fc_steps_Stack, T.fc_told_Run, T.ib_Rule, T.io_Rule_Rule, T.io_Rule_Run, T.io_Rule_Stack, T.iy_Rule_int, T.iy_Rule_bool, T.iy_Rule_str, T.iy_Rule_tuple, T.iy_Rule_list, T.iy_Rule_dict, T.ib_Run, T.io_Run_Rule, T.io_Run_Run, T.io_Run_Stack, T.iy_Run_int, T.iy_Run_bool, T.iy_Run_str, T.iy_Run_tuple, T.iy_Run_list, T.iy_Run_dict, T.ib_Stack, T.io_Stack_Rule, T.io_Stack_Run, T.io_Stack_Stack, T.iy_Stack_int, T.iy_Stack_bool, T.iy_Stack_str, T.iy_Stack_tuple, T.iy_Stack_list, T.iy_Stack_dict, T.pn_Rule_0, T.pv_Rule_0, T.lk_Rule_1_0, T.pn_Rule_1_0, T.pv_Rule_1_0, T.pn_Rule_1, T.pv_Rule_1, T.lk_Rule_2_0, T.pn_Rule_2_0, T.pv_Rule_2_0, T.lk_Rule_2_1, T.pn_Rule_2_1, T.pv_Rule_2_1, T.nc_Rule_action_for_0, T.nc_Rule_action_for_1, T.nc_Rule_action_for_2, T.pn_Run_0, T.pv_Run_0, T.lk_Run_1_0, T.pn_Run_1_0, T.pv_Run_1_0, T.pn_Run_1, T.pv_Run_1, T.lk_Run_2_0, T.pn_Run_2_0, T.pv_Run_2_0, T.lk_Run_2_1, T.pn_Run_2_1, T.pv_Run_2_1, T.pn_Run_2, T.pv_Run_2, T.lk_Run_3_0, T.pn_Run_3_0, T.pv_Run_3_0, T.lk_Run_3_1, T.pn_Run_3_1, T.pv_Run_3_1, T.lk_Run_3_2, T.pn_Run_3_2, T.pv_Run_3_2, T.nc_Run_ended_0, T.nc_Run_ended_1, T.nc_Run_ended_2, T.nc_Run_ended_3, T.nc_Run_outcome_0, T.nc_Run_outcome_1, T.nc_Run_outcome_2, T.nc_Run_outcome_3, T.pn_Stack_0, T.pv_Stack_0, T.lk_Stack_1_0, T.pn_Stack_1_0, T.pv_Stack_1_0, T.pn_Stack_1, T.pv_Stack_1, T.lk_Stack_2_0, T.pn_Stack_2_0, T.pv_Stack_2_0, T.lk_Stack_2_1, T.pn_Stack_2_1, T.pv_Stack_2_1, T.pn_Stack_2, T.pv_Stack_2, T.lk_Stack_3_0, T.pn_Stack_3_0, T.pv_Stack_3_0, T.lk_Stack_3_1, T.pn_Stack_3_1, T.pv_Stack_3_1, T.lk_Stack_3_2, T.pn_Stack_3_2, T.pv_Stack_3_2, T.pn_Stack_3, T.pv_Stack_3, T.lk_Stack_4_0, T.pn_Stack_4_0, T.pv_Stack_4_0, T.lk_Stack_4_1, T.pn_Stack_4_1, T.pv_Stack_4_1, T.lk_Stack_4_2, T.pn_Stack_4_2, T.pv_Stack_4_2, T.lk_Stack_4_3, T.pn_Stack_4_3, T.pv_Stack_4_3, T.nc_Stack___add___0, T.nc_Stack___add___1, T.nc_Stack___add___2, T.nc_Stack___add___3, T.nc_Stack___add___4, T.in_ok, T.in_bad, T.eq_reset, T.eq_die, T.eq_done, T.eq_none, T.eq_good, eq_self, decide_true, decide_false, String.reduceEq, String.reduceNe, Bool.not_eq_eq_eq_not, List.length_map, List.map_cons, List.map_nil, List.replicate_succ, List.replicate_zero, decide_eq_true_eq, decide_eq_false_iff_not, Bool.not_eq_true', Bool.not_eq_false', Bool.not_true, Bool.not_false, if_true, if_false, List.getElem?_cons_zero, List.getElem?_cons_succ, List.set_cons_zero, List.set_cons_succ, List.cons_append, List.nil_append, List.length_cons, List.length_nil, and_true, true_and, ↓reduceIte, reduceCtorEq, Int.reduceLT, Int.reduceLE, Int.reduceEq, Int.reduceNe, Int.reduceAdd, Int.reduceSub, Int.reduceMul, Int.reduceDiv, Int.reduceMod, Int.reducePow, Int.reduceNeg, Int.reduceToNat, P.natAbs10, Nat.reduceAdd, Nat.reduceSub, Nat.reduceMul, Nat.reduceLT, Nat.reduceLeDiff, Nat.reduceEqDiff, Nat.reducePow, or_true, true_or, and_self, not_true_eq_false, not_false_eq_true, Bool.false_eq_true, Bool.true_eq_false, $ls,*])
theorem tn_act (a : Actn) : tnP a.pv = some (.b (match a with | .jump _ => "int" | _ => "str")) := by cases a <;> rfl
theorem mark0 (m : Mark) : ∃ s r, m.pv = .tup [.str s, r] ∧ eqB (.str s) (.str "bad") = some (match m with | .bad _ => true | _ => false) ∧ eqB (.str s) (.str "good") = some (decide (m = .good)) ∧ eqB (.str s) (.str "none") = some (decide (m = .none)) := by
  cases m <;> exact ⟨_, _, rfl, rfl, rfl, rfl⟩
theorem get_Ok {t : Tb} (h : t.Ok) (r : Res) : (t.get r).Ok := by
  obtain ⟨h1, h2, h3, h4⟩ := h
  cases r <;> assumption
theorem marked_sp {n : Nat} (hn : 1 ≤ n) (a : Actn) (m b : Mark) (k : Nat) {μ : Sto} {Q : EV → Sto → Prop} {X : XQ} (q : Q (.v (stepM a m b k).pv) μ) :
    WpE (callS (call n f_marked) 4 [.v a.pv, .v m.pv, .v b.pv, .v (.int k)] μ) Q X := by
  refine call_v (ps := [a.pv, m.pv, b.pv, .int k]) rfl rfl ?_
  rw [call_at _ hn, t_marked]
  simp_arith [b_marked]
  obtain ⟨s, r, e, h1, -, -⟩ := mark0 m
  by_cases c1 : a = .ok ∨ a = .done
  · have e1 : stepM a m b k = if m = .none then .good else m := by rcases c1 with rfl | rfl <;> rfl
    rw [e1] at q
    simp_arith [c1]
    split
    · rename_i hm; rw [if_pos hm] at q; simp_arith []; exact ⟨_, rfl, q⟩
    · rename_i hm; rw [if_neg hm] at q; simp_arith []; exact ⟨_, rfl, q⟩
  · simp_arith [c1]
    by_cases c2 : a = .bad ∨ a = .die
    · have e2 : (stepM a m b k).pv = match m with | .bad _ => m.pv | _ => .tup [.str "bad", .int k] := by rcases c2 with rfl | rfl <;> cases m <;> rfl
      rw [e2] at q
      simp_arith [c2, e, h1]
      cases m <;> (simp_arith []; first | exact ⟨_, rfl, q⟩ | exact ⟨_, rfl, e ▸ q⟩)
    · simp_arith [c2]
      by_cases c3 : a = .reset
      · subst c3; simp_arith []; exact ⟨_, rfl, q⟩
      · have e3 : stepM a m b k = m := by cases a <;> simp_all [stepM]
        rw [e3] at q
        simp_arith [c3]; exact ⟨_, rfl, q⟩
theorem act_for_sp {n : Nat} (hn : 1 ≤ n) (x : Str × Tb) (r : Res) {μ : Sto} {Q : EV → Sto → Prop} {X : XQ} (q : Q (.v (x.2.get r).pv) μ) :
    WpE (callS (call n f_Rule_action_for) 2 [.v (ruPV x), .v r.pv] μ) Q X := by
  refine call_v (ps := [ruPV x, r.pv]) rfl rfl ?_
  rw [call_at _ hn, t_Rule_action_for]
  refine WpE.eq (a := .v (x.2.get r).pv) (μ := []) ?_ ⟨_, rfl, q⟩
  cases r <;> rfl
end T


set_option Elab.async false
set_option linter.all false
set_option maxRecDepth 100000
set_option maxHeartbeats 4000000
set_option pp.maxSteps 250
namespace T
open PySem PySem.Spec L2 G P M
local macro_rules | `(tactic| simp_arith [$ls,*]) => `(tactic| simp -failIfUnchanged -dsimp only [P.evK_eq, P.optK_some, ↓P.w_ok, ↓P.w_exc, ↓P.w_no, ↓P.w_bind, ↓P.s_nx, ↓P.s_rt, ↓P.s_bk, ↓P.s_ct, ↓P.s_exc, ↓P.s_no, ↓P.s_stm, ↓P.xS_eq, ↓P.s_seqm, ↓P.s_turnm, ↓P.w_fin, ↓P.seqK_nx, ↓P.seqK_rt, ↓P.seqK_bk, ↓P.seqK_ct, ↓P.seqK_exc, ↓P.turnK_nx, ↓P.turnK_ct, ↓P.turnK_bk, ↓P.turnK_rt, ↓P.turnK_exc, ↓P.finK_nx, ↓P.finK_rt, ↓P.finK_exc, ↓P.w_var0, ↓P.upd0, ↓P.w_var1, ↓P.upd1, ↓P.w_var2, ↓P.upd2, ↓P.w_var3, ↓P.upd3, ↓P.w_var4, ↓P.upd4, ↓P.w_var5, ↓P.upd5, ↓P.w_var6, ↓P.upd6, ↓P.w_var7, ↓P.upd7, ↓P.w_var8, ↓P.upd8, ↓P.w_var9, ↓P.upd9, ↓P.w_var10, ↓P.upd10, ↓P.w_var11, ↓P.upd11, ↓P.w_var12, ↓P.upd12, ↓P.w_var13, ↓P.upd13, ↓P.w_var14, ↓P.upd14, ↓P.w_var15, ↓P.upd15, ↓P.w_var16, ↓P.upd16, ↓P.w_var17, ↓P.upd17, ↓P.w_var18, ↓P.upd18, ↓P.w_var19, ↓P.upd19, ↓P.w_var20, ↓P.upd20, ↓P.w_var21, ↓P.upd21, ↓P.w_var22, ↓P.upd22, ↓P.w_var23, ↓P.upd23, ↓P.w_var24, ↓P.upd24, ↓P.w_var25, ↓P.upd25, P.at0, P.ixN0, P.at1, P.ixN1, P.at2, P.ixN2, P.at3, P.ixN3, P.at4, P.ixN4, P.at5, P.ixN5, P.at6, P.ixN6, P.at7, P.ixN7, P.at8, P.ixN8, P.at9, P.ixN9, P.at10, P.ixN10, P.at11, P.ixN11, P.at12, P.ixN12, ↓P.w_cM, ↓P.w_opM, ↓P.w_unM, ↓P.w_blE, ↓P.w_andVM, ↓P.w_orVM, ↓P.w_notVM, ↓P.w_ifM, ↓P.w_chainM, ↓P.w_nilM, ↓P.w_consM, P.sizeL, ↓P.vals0, ↓P.vals1, ↓P.vals2, ↓P.vals3, ↓P.vals4, ↓P.vals5, ↓P.vals6, ↓P.vals7, ↓P.vals8, ↓P.vals9, ↓P.vals10, ↓P.vals11, ↓P.vals12, ↓P.w_tupM, ↓P.w_lstM, ↓P.w_lstC, ↓P.w_cbM, ↓P.w_tstM, ↓P.w_tandM, ↓P.w_torM, ↓P.w_tnotM, ↓P.w_tyesM, ↓P.s_nxS, ↓P.s_bkS, ↓P.s_ctS, ↓P.s_retN, ↓P.s_noS, ↓P.s_seqS, ↓P.s_retS, ↓P.s_dropS, ↓P.s_ifS, ↓P.s_setS, ↓P.s_asgS, ↓P.w_nameG, ↓P.w_nilG, ↓P.w_consG, ↓P.w_tupG1, ↓P.w_tupG2, ↓P.w_tupG3, ↓P.w_tupG4, ↓P.parK_eq, ↓P.par3K_eq, ↓P.s_parS, ↓P.s_par3S, ↓P.augK_eq, ↓P.s_aug0, ↓P.s_aug1, ↓P.s_aug2, ↓P.s_aug3, ↓P.s_aug4, ↓P.s_aug5, ↓P.s_aug6, ↓P.s_aug7, ↓P.s_aug8, ↓P.s_aug9, ↓P.s_aug10, ↓P.s_aug11, ↓P.s_aug12, ↓P.s_aug13, ↓P.s_aug14, ↓P.s_aug15, ↓P.s_loop0, ↓P.s_loop1, ↓P.s_forS, ↓P.cellK_eq, P.lstCK_eq, P.lstK_eq, ↓P.seqVK_l, ↓P.seqVK_f, ↓P.tupVK_eq, P.rng1K_eq, ↓P.tup1K_eq, ↓P.str1K_eq, ↓P.intK_eq, P.strsK_eq, P.v_sub, P.v_lt, P.v_le, P.v_gt, P.v_ge, ↓P.v_mul, ↓P.v_fdiv, ↓P.v_mod, P.v_pow, P.v_addI, P.v_addT, P.v_addL, P.v_eqI, P.v_neI, P.v_eqS, P.v_neS, P.v_isN, P.v_notN, ↓P.v_ixT, ↓P.v_ixL, ↓P.v_ixF, P.ixCK_l, P.ixCK_d, ↓P.v_ixC, ↓P.v_ixD, P.v_lenT, P.v_lenL, P.v_lenF, P.v_int, P.v_min2, P.v_max2, P.v_tupL, ↓P.w_callM, ↓P.w_callWN, ↓P.w_makeM, ↓P.w_makeN, ↓P.w_makeWN, ↓P.w_fldM, ↓P.v_fld, P.insK_eq, ↓P.v_fldC, ↓P.w_frM, P.v_frV, ↓P.v_frC, ↓P.w_bmC, ↓P.w_itSeqM, ↓P.w_itTupM, ↓P.w_rng1M, ↓P.w_subG, ↓P.w_setO, ↓P.v_append, ↓P.v_popAt, ↓P.w_lcN, ↓P.w_sortSetM, ↓P.w_body, ↓P.clsCK_eq, ↓P.clsK_v, ↓P.clsK_c, ↓P.w_callWn, ↓P.w_methM, ↓P.w_methW, ↓P.nonK_eq, ↓P.w_makeW, ↓P.insPK_eq, ↓P.s_setfS, ↓P.v_isi, P.tnE_v, P.tnP_non, P.tnP_bl, P.tnP_int, P.tnP_str, P.tnP_tup, P.tnP_lst, P.tnP_ins, ↓P.w_enumM, ↓P.w_starM, P.seqE_t, P.seqE_l, P.lstE_l, P.lstE_f, ↓P.w_nxM, ↓P.w_nxT, ↓P.w_propN, ↓P.w_gIxM, ↓P.w_slM, ↓P.w_noPM, ↓P.w_partM, P.v_slT, P.v_slL, P.v_frlL, ↓P.w_revM, P.v_all, P.v_any, P.blsOf_map, P.v_in2, P.v_notIn2, P.v_eq2, P.v_ne2, ↓P.w_starC, P.isB_NoneType_int, P.isB_NoneType_bool, P.isB_NoneType_str, P.isB_NoneType_tuple, P.isB_NoneType_list, P.isB_NoneType_dict, P.isB_int_int, P.isB_int_bool, P.isB_int_str, P.isB_int_tuple, P.isB_int_list, P.isB_int_dict, P.isB_bool_int, P.isB_bool_bool, P.isB_bool_str, P.isB_bool_tuple, P.isB_bool_list, P.isB_bool_dict, P.isB_str_int, P.isB_str_bool, P.isB_str_str, P.isB_str_tuple, P.isB_str_list, P.isB_str_dict, P.isB_tuple_int, P.isB_tuple_bool, P.isB_tuple_str, P.isB_tuple_tuple, P.isB_tuple_list, P.isB_tuple_dict, P.isB_list_int, P.isB_list_bool, P.isB_list_str, P.isB_list_tuple, P.isB_list_list, P.isB_list_dict, P.isB_dict_int, P.isB_dict_bool, P.isB_dict_str, P.isB_dict_tuple, P.isB_dict_list, P.isB_dict_dict, P.valsE_nil, P.valsE_v, P.valsE_c, P.valsE_n, ↓P.valK_eq, ↓P.w_scope, P.startE_eq, ↓P.turnI_nx, ↓P.turnI_ct, ↓P.turnI_bk, ↓P.turnI_rt, ↓P.turnI_exc, ↓P.w_lc0, ↓P.w_lc1, P.ofString_inj, P.eqB_int, P.eqB_str, P.wipeR_nil, P.wipeR_cons, P.v_lenS, P.v_lenC, P.strVK_eq, ↓P.w_itStrM, P.dctE_d, P.dctE_t, P.dctE_l, P.dctE_f, P.v_listT, P.v_listL, P.v_listD, P.v_sortD, P.v_sortL, P.v_dictL, P.v_dictD, P.dzK_eq, ↓P.w_dictZip, P.strsOf_mapS, ↓P.w_tupIxM, ↓P.w_ownAdd, ↓P.w_dnew, ↓P.w_disp, P.dispK_1, P.keyP_str, P.v_orD, ↓P.w_sortSetTM, ↓P.w_lc2, P.strsK_app, P.rgK_eq, ↓P.w_rgList, T.fc_acts_Rule, T.fc_asked_rules_Run, T.fc_asks_Rule, T.fc_depth_Stack, T.fc_mark_Run, T.fc_names_Stack, T.fc_parts_Stack, T.fc_steps_Stack, T.fc_told_Run, T.ib_Rule, T.io_Rule_Rule, T.io_Rule_Run, T.io_Rule_Stack, T.iy_Rule_int, T.iy_Rule_bool, T.iy_Rule_str, T.iy_Rule_tuple, T.iy_Rule_list, T.iy_Rule_dict, T.ib_Run, T.io_Run_Rule, T.io_Run_Run, T.io_Run_Stack, T.iy_Run_int, T.iy_Run_bool, T.iy_Run_str, T.iy_Run_tuple, T.iy_Run_list, T.iy_Run_dict, T.ib_Stack, T.io_Stack_Rule, T.io_Stack_Run, T.io_Stack_Stack, T.iy_Stack_int, T.iy_Stack_bool, T.iy_Stack_str, T.iy_Stack_tuple, T.iy_Stack_list, T.iy_Stack_dict, T.pn_Rule_0, T.pv_Rule_0, T.lk_Rule_1_0, T.pn_Rule_1_0, T.pv_Rule_1_0, T.pn_Rule_1, T.pv_Rule_1, T.lk_Rule_2_0, T.pn_Rule_2_0, T.pv_Rule_2_0, T.lk_Rule_2_1, T.pn_Rule_2_1, T.pv_Rule_2_1, T.nc_Rule_action_for_0, T.nc_Rule_action_for_1, T.nc_Rule_action_for_2, T.pn_Run_0, T.pv_Run_0, T.lk_Run_1_0, T.pn_Run_1_0, T.pv_Run_1_0, T.pn_Run_1, T.pv_Run_1, T.lk_Run_2_0, T.pn_Run_2_0, T.pv_Run_2_0, T.lk_Run_2_1, T.pn_Run_2_1, T.pv_Run_2_1, T.pn_Run_2, T.pv_Run_2, T.lk_Run_3_0, T.pn_Run_3_0, T.pv_Run_3_0, T.lk_Run_3_1, T.pn_Run_3_1, T.pv_Run_3_1, T.lk_Run_3_2, T.pn_Run_3_2, T.pv_Run_3_2, T.nc_Run_ended_0, T.nc_Run_ended_1, T.nc_Run_ended_2, T.nc_Run_ended_3, T.nc_Run_outcome_0, T.nc_Run_outcome_1, T.nc_Run_outcome_2, T.nc_Run_outcome_3, T.pn_Stack_0, T.pv_Stack_0, T.lk_Stack_1_0, T.pn_Stack_1_0, T.pv_Stack_1_0, T.pn_Stack_1, T.pv_Stack_1, T.lk_Stack_2_0, T.pn_Stack_2_0, T.pv_Stack_2_0, T.lk_Stack_2_1, T.pn_Stack_2_1, T.pv_Stack_2_1, T.pn_Stack_2, T.pv_Stack_2, T.lk_Stack_3_0, T.pn_Stack_3_0, T.pv_Stack_3_0, T.lk_Stack_3_1, T.pn_Stack_3_1, T.pv_Stack_3_1, T.lk_Stack_3_2, T.pn_Stack_3_2, T.pv_Stack_3_2, T.pn_Stack_3, T.pv_Stack_3, T.lk_Stack_4_0, T.pn_Stack_4_0, T.pv_Stack_4_0, T.lk_Stack_4_1, T.pn_Stack_4_1, T.pv_Stack_4_1, T.lk_Stack_4_2, T.pn_Stack_4_2, T.pv_Stack_4_2, T.lk_Stack_4_3, T.pn_Stack_4_3, T.pv_Stack_4_3, T.nc_Stack___add___0, T.nc_Stack___add___1, T.nc_Stack___add___2, T.nc_Stack___add___3, T.nc_Stack___add___4, T.in_ok, T.in_bad, T.eq_reset, T.eq_die, T.eq_done, T.eq_none, T.eq_good, eq_self, decide_true, decide_false, String.reduceEq, String.reduceNe, Bool.not_eq_eq_eq_not, List.length_map, List.map_cons, List.map_nil, List.replicate_succ, List.replicate_zero, decide_eq_true_eq, decide_eq_false_iff_not, Bool.not_eq_true', Bool.not_eq_false', Bool.not_true, Bool.not_false, if_true, if_false, List.getElem?_cons_zero, List.getElem?_cons_succ, List.set_cons_zero, List.set_cons_succ, List.cons_append, List.nil_append, List.length_cons, List.length_nil, and_true, true_and, ↓reduceIte, reduceCtorEq, Int.reduceLT, Int.reduceLE, Int.reduceEq, Int.reduceNe, Int.reduceAdd, Int.reduceSub, Int.reduceMul, Int.reduceDiv, Int.reduceMod, Int.reducePow, Int.reduceNeg, Int.reduceToNat, P.natAbs10, Nat.reduceAdd, Nat.reduceSub, Nat.reduceMul, Nat.reduceLT, Nat.reduceLeDiff, Nat.reduceEqDiff, Nat.reducePow, or_true, true_or, and_self, not_true_eq_false, not_false_eq_true, Bool.false_eq_true, Bool.true_eq_false, $ls,*])
/-! ### words, actions, rules -/
theorem in_letter {c : Nat} {μ : Sto} : inB (.v (.str ⟨#[c]⟩)) (.v (.str "abcdefghijklmnopqrstuvwxyz")) μ = some (decide (c ∈ ("abcdefghijklmnopqrstuvwxyz" : Str).cps.toList)) := (Eq.trans rfl rfl)
local macro_rules | `(tactic| simp_arith [$ls,*]) => `(tactic| simp -failIfUnchanged -dsimp only [P.evK_eq, P.optK_some, ↓P.w_ok, ↓P.w_exc, ↓P.w_no, ↓P.w_bind, ↓P.s_nx, ↓P.s_rt, ↓P.s_bk, ↓P.s_ct, ↓P.s_exc, ↓P.s_no, ↓P.s_stm, ↓P.xS_eq, ↓P.s_seqm, ↓P.s_turnm, ↓P.w_fin, ↓P.seqK_nx, ↓P.seqK_rt, ↓P.seqK_bk, ↓P.seqK_ct, ↓P.seqK_exc, ↓P.turnK_nx, ↓P.turnK_ct, ↓P.turnK_bk, ↓P.turnK_rt, ↓P.turnK_exc, ↓P.finK_nx, ↓P.finK_rt, ↓P.finK_exc, ↓P.w_var0, ↓P.upd0, ↓P.w_var1, ↓P.upd1, ↓P.w_var2, ↓P.upd2, ↓P.w_var3, ↓P.upd3, ↓P.w_var4, ↓P.upd4, ↓P.w_var5, ↓P.upd5, ↓P.w_var6, ↓P.upd6, ↓P.w_var7, ↓P.upd7, ↓P.w_var8, ↓P.upd8, ↓P.w_var9, ↓P.upd9, ↓P.w_var10, ↓P.upd10, ↓P.w_var11, ↓P.upd11, ↓P.w_var12, ↓P.upd12, ↓P.w_var13, ↓P.upd13, ↓P.w_var14, ↓P.upd14, ↓P.w_var15, ↓P.upd15, ↓P.w_var16, ↓P.upd16, ↓P.w_var17, ↓P.upd17, ↓P.w_var18, ↓P.upd18, ↓P.w_var19, ↓P.upd19, ↓P.w_var20, ↓P.upd20, ↓P.w_var21, ↓P.upd21, ↓P.w_var22, ↓P.upd22, ↓P.w_var23, ↓P.upd23, ↓P.w_var24, ↓P.upd24, ↓P.w_var25, ↓P.upd25, P.at0, P.ixN0, P.at1, P.ixN1, P.at2, P.ixN2, P.at3, P.ixN3, P.at4, P.ixN4, P.at5, P.ixN5, P.at6, P.ixN6, P.at7, P.ixN7, P.at8, P.ixN8, P.at9, P.ixN9, P.at10, P.ixN10, P.at11, P.ixN11, P.at12, P.ixN12, ↓P.w_cM, ↓P.w_opM, ↓P.w_unM, ↓P.w_blE, ↓P.w_andVM, ↓P.w_orVM, ↓P.w_notVM, ↓P.w_ifM, ↓P.w_chainM, ↓P.w_nilM, ↓P.w_consM, P.sizeL, ↓P.vals0, ↓P.vals1, ↓P.vals2, ↓P.vals3, ↓P.vals4, ↓P.vals5, ↓P.vals6, ↓P.vals7, ↓P.vals8, ↓P.vals9, ↓P.vals10, ↓P.vals11, ↓P.vals12, ↓P.w_tupM, ↓P.w_lstM, ↓P.w_lstC, ↓P.w_cbM, ↓P.w_tstM, ↓P.w_tandM, ↓P.w_torM, ↓P.w_tnotM, ↓P.w_tyesM, ↓P.s_nxS, ↓P.s_bkS, ↓P.s_ctS, ↓P.s_retN, ↓P.s_noS, ↓P.s_seqS, ↓P.s_retS, ↓P.s_dropS, ↓P.s_ifS, ↓P.s_setS, ↓P.s_asgS, ↓P.w_nameG, ↓P.w_nilG, ↓P.w_consG, ↓P.w_tupG1, ↓P.w_tupG2, ↓P.w_tupG3, ↓P.w_tupG4, ↓P.parK_eq, ↓P.par3K_eq, ↓P.s_parS, ↓P.s_par3S, ↓P.augK_eq, ↓P.s_aug0, ↓P.s_aug1, ↓P.s_aug2, ↓P.s_aug3, ↓P.s_aug4, ↓P.s_aug5, ↓P.s_aug6, ↓P.s_aug7, ↓P.s_aug8, ↓P.s_aug9, ↓P.s_aug10, ↓P.s_aug11, ↓P.s_aug12, ↓P.s_aug13, ↓P.s_aug14, ↓P.s_aug15, ↓P.s_loop0, ↓P.s_loop1, ↓P.s_forS, ↓P.cellK_eq, P.lstCK_eq, P.lstK_eq, ↓P.seqVK_l, ↓P.seqVK_f, ↓P.tupVK_eq, P.rng1K_eq, ↓P.tup1K_eq, ↓P.str1K_eq, ↓P.intK_eq, P.strsK_eq, P.v_sub, P.v_lt, P.v_le, P.v_gt, P.v_ge, ↓P.v_mul, ↓P.v_fdiv, ↓P.v_mod, P.v_pow, P.v_addI, P.v_addT, P.v_addL, P.v_eqI, P.v_neI, P.v_eqS, P.v_neS, P.v_isN, P.v_notN, ↓P.v_ixT, ↓P.v_ixL, ↓P.v_ixF, P.ixCK_l, P.ixCK_d, ↓P.v_ixC, ↓P.v_ixD, P.v_lenT, P.v_lenL, P.v_lenF, P.v_int, P.v_min2, P.v_max2, P.v_tupL, ↓P.w_callM, ↓P.w_callWN, ↓P.w_makeM, ↓P.w_makeN, ↓P.w_makeWN, ↓P.w_fldM, ↓P.v_fld, P.insK_eq, ↓P.v_fldC, ↓P.w_frM, P.v_frV, ↓P.v_frC, ↓P.w_bmC, ↓P.w_itSeqM, ↓P.w_itTupM, ↓P.w_rng1M, ↓P.w_subG, ↓P.w_setO, ↓P.v_append, ↓P.v_popAt, ↓P.w_lcN, ↓P.w_sortSetM, ↓P.w_body, ↓P.clsCK_eq, ↓P.clsK_v, ↓P.clsK_c, ↓P.w_callWn, ↓P.w_methM, ↓P.w_methW, ↓P.nonK_eq, ↓P.w_makeW, ↓P.insPK_eq, ↓P.s_setfS, ↓P.v_isi, P.tnE_v, P.tnP_non, P.tnP_bl, P.tnP_int, P.tnP_str, P.tnP_tup, P.tnP_lst, P.tnP_ins, ↓P.w_enumM, ↓P.w_starM, P.seqE_t, P.seqE_l, P.lstE_l, P.lstE_f, ↓P.w_nxM, ↓P.w_nxT, ↓P.w_propN, ↓P.w_gIxM, ↓P.w_slM, ↓P.w_noPM, ↓P.w_partM, P.v_slT, P.v_slL, P.v_frlL, ↓P.w_revM, P.v_all, P.v_any, P.blsOf_map, P.v_in2, P.v_notIn2, P.v_eq2, P.v_ne2, ↓P.w_starC, P.isB_NoneType_int, P.isB_NoneType_bool, P.isB_NoneType_str, P.isB_NoneType_tuple, P.isB_NoneType_list, P.isB_NoneType_dict, P.isB_int_int, P.isB_int_bool, P.isB_int_str, P.isB_int_tuple, P.isB_int_list, P.isB_int_dict, P.isB_bool_int, P.isB_bool_bool, P.isB_bool_str, P.isB_bool_tuple, P.isB_bool_list, P.isB_bool_dict, P.isB_str_int, P.isB_str_bool, P.isB_str_str, P.isB_str_tuple, P.isB_str_list, P.isB_str_dict, P.isB_tuple_int, P.isB_tuple_bool, P.isB_tuple_str, P.isB_tuple_tuple, P.isB_tuple_list, P.isB_tuple_dict, P.isB_list_int, P.isB_list_bool, P.isB_list_str, P.isB_list_tuple, P.isB_list_list, P.isB_list_dict, P.isB_dict_int, P.isB_dict_bool, P.isB_dict_str, P.isB_dict_tuple, P.isB_dict_list, P.isB_dict_dict, P.valsE_nil, P.valsE_v, P.valsE_c, P.valsE_n, ↓P.valK_eq, ↓P.w_scope, P.startE_eq, ↓P.turnI_nx, ↓P.turnI_ct, ↓P.turnI_bk, ↓P.turnI_rt, ↓P.turnI_exc, ↓P.w_lc0, ↓P.w_lc1, P.ofString_inj, P.eqB_int, P.eqB_str, P.wipeR_nil, P.wipeR_cons, P.v_lenS, P.v_lenC, P.strVK_eq, ↓P.w_itStrM, P.dctE_d, P.dctE_t, P.dctE_l, P.dctE_f, P.v_listT, P.v_listL, P.v_listD, P.v_sortD, P.v_sortL, P.v_dictL, P.v_dictD, P.dzK_eq, ↓P.w_dictZip, P.strsOf_mapS, ↓P.w_tupIxM, ↓P.w_ownAdd, ↓P.w_dnew, ↓P.w_disp, P.dispK_1, P.keyP_str, P.v_orD, ↓P.w_sortSetTM, ↓P.w_lc2, P.strsK_app, P.rgK_eq, ↓P.w_rgList, T.fc_acts_Rule, T.fc_asked_rules_Run, T.fc_asks_Rule, T.fc_depth_Stack, T.fc_mark_Run, T.fc_names_Stack, T.fc_parts_Stack, T.fc_steps_Stack, T.fc_told_Run, T.ib_Rule, T.io_Rule_Rule, T.io_Rule_Run, T.io_Rule_Stack, T.iy_Rule_int, T.iy_Rule_bool, T.iy_Rule_str, T.iy_Rule_tuple, T.iy_Rule_list, T.iy_Rule_dict, T.ib_Run, T.io_Run_Rule, T.io_Run_Run, T.io_Run_Stack, T.iy_Run_int, T.iy_Run_bool, T.iy_Run_str, T.iy_Run_tuple, T.iy_Run_list, T.iy_Run_dict, T.ib_Stack, T.io_Stack_Rule, T.io_Stack_Run, T.io_Stack_Stack, T.iy_Stack_int, T.iy_Stack_bool, T.iy_Stack_str, T.iy_Stack_tuple, T.iy_Stack_list, T.iy_Stack_dict, T.pn_Rule_0, T.pv_Rule_0, T.lk_Rule_1_0, T.pn_Rule_1_0, T.pv_Rule_1_0, T.pn_Rule_1, T.pv_Rule_1, T.lk_Rule_2_0, T.pn_Rule_2_0, T.pv_Rule_2_0, T.lk_Rule_2_1, T.pn_Rule_2_1, T.pv_Rule_2_1, T.nc_Rule_action_for_0, T.nc_Rule_action_for_1, T.nc_Rule_action_for_2, T.pn_Run_0, T.pv_Run_0, T.lk_Run_1_0, T.pn_Run_1_0, T.pv_Run_1_0, T.pn_Run_1, T.pv_Run_1, T.lk_Run_2_0, T.pn_Run_2_0, T.pv_Run_2_0, T.lk_Run_2_1, T.pn_Run_2_1, T.pv_Run_2_1, T.pn_Run_2, T.pv_Run_2, T.lk_Run_3_0, T.pn_Run_3_0, T.pv_Run_3_0, T.lk_Run_3_1, T.pn_Run_3_1, T.pv_Run_3_1, T.lk_Run_3_2, T.pn_Run_3_2, T.pv_Run_3_2, T.nc_Run_ended_0, T.nc_Run_ended_1, T.nc_Run_ended_2, T.nc_Run_ended_3, T.nc_Run_outcome_0, T.nc_Run_outcome_1, T.nc_Run_outcome_2, T.nc_Run_outcome_3, T.pn_Stack_0, T.pv_Stack_0, T.lk_Stack_1_0, T.pn_Stack_1_0, T.pv_Stack_1_0, T.pn_Stack_1, T.pv_Stack_1, T.lk_Stack_2_0, T.pn_Stack_2_0, T.pv_Stack_2_0, T.lk_Stack_2_1, T.pn_Stack_2_1, T.pv_Stack_2_1, T.pn_Stack_2, T.pv_Stack_2, T.lk_Stack_3_0, T.pn_Stack_3_0, T.pv_Stack_3_0, T.lk_Stack_3_1, T.pn_Stack_3_1, T.pv_Stack_3_1, T.lk_Stack_3_2, T.pn_Stack_3_2, T.pv_Stack_3_2, T.pn_Stack_3, T.pv_Stack_3, T.lk_Stack_4_0, T.pn_Stack_4_0, T.pv_Stack_4_0, T.lk_Stack_4_1, T.pn_Stack_4_1, T.pv_Stack_4_1, T.lk_Stack_4_2, T.pn_Stack_4_2, T.pv_Stack_4_2, T.lk_Stack_4_3, T.pn_Stack_4_3, T.pv_Stack_4_3, T.nc_Stack___add___0, T.nc_Stack___add___1, T.nc_Stack___add___2, T.nc_Stack___add___3, T.nc_Stack___add___4, T.in_ok, T.in_bad, T.eq_reset, T.eq_die, T.eq_done, T.eq_none, T.eq_good, T.in_letter, eq_self, decide_true, decide_false, String.reduceEq, String.reduceNe, Bool.not_eq_eq_eq_not, List.length_map, List.map_cons, List.map_nil, List.replicate_succ, List.replicate_zero, decide_eq_true_eq, decide_eq_false_iff_not, Bool.not_eq_true', Bool.not_eq_false', Bool.not_true, Bool.not_false, if_true, if_false, List.getElem?_cons_zero, List.getElem?_cons_succ, List.set_cons_zero, List.set_cons_succ, List.cons_append, List.nil_append, List.length_cons, List.length_nil, and_true, true_and, ↓reduceIte, reduceCtorEq, Int.reduceLT, Int.reduceLE, Int.reduceEq, Int.reduceNe, Int.reduceAdd, Int.reduceSub, Int.reduceMul, Int.reduceDiv, Int.reduceMod, Int.reducePow, Int.reduceNeg, Int.reduceToNat, P.natAbs10, Nat.reduceAdd, Nat.reduceSub, Nat.reduceMul, Nat.reduceLT, Nat.reduceLeDiff, Nat.reduceEqDiff, Nat.reducePow, or_true, true_or, and_self, not_true_eq_false, not_false_eq_true, Bool.false_eq_true, Bool.true_eq_false, $ls,*])
structure WordOk (s : Str) : Prop where
  lo : 1 ≤ s.length
  hi : s.length ≤ 8
  all : ∀ c ∈ s.cps.toList, c ∈ ("abcdefghijklmnopqrstuvwxyz" : Str).cps.toList
theorem is_word_sp {n : Nat} (hn : 1 ≤ n) (s : Str) (hs : WordOk s) {μ : Sto} {Q : EV → Sto → Prop} {X : XQ} (q : Q (.v (.bl true)) μ) :
    WpE (callS (call n f_is_word) 1 [.v (.str s)] μ) Q X := by
  refine call_v (ps := [.str s]) rfl rfl ?_
  rw [call_at _ hn, t_is_word]
  obtain ⟨h1, h2, h3⟩ := hs
  have e1 : (1 : Int) ≤ (s.length : Nat) := by omega
  have e2 : ((s.length : Nat) : Int) ≤ 8 := by omega
  have hl : s.cps.toList.length ≤ 8 := h2
  simp_arith [b_is_word, e1, e2]
  refine ⟨by omega, ?_⟩
  refine lc_map (fun c => EV.v (.str ⟨#[c]⟩)) (fun c => PV.bl (decide (c ∈ ("abcdefghijklmnopqrstuvwxyz" : Str).cps.toList))) s.cps.toList (fun c hc => ?_) (by rw [sizeL]; omega) ?_
  · simp_arith []
  · simp_arith [List.all_map]
    refine ⟨_, rfl, ?_⟩
    have e : (s.cps.toList.all (id ∘ fun c => decide (c ∈ ("abcdefghijklmnopqrstuvwxyz" : Str).cps.toList))) = true := by
      rw [List.all_eq_true]
      intro c hc
      exact decide_eq_true (h3 c hc)
    rw [e]
    exact q

theorem not_isIn_jump (k : Nat) : inB (.v (.int k)) (.v g_ACTIONS) [] = some false := (Eq.trans rfl rfl)
theorem is_act_sp {n : Nat} (hn : 2 ≤ n) (a : Actn) (ha : a.Ok) {μ : Sto} {Q : EV → Sto → Prop} {X : XQ} (q : Q (.v (.bl true)) μ) :
    WpE (callS (call n f_is_action) 1 [.v a.pv] μ) Q X := by
  refine call_v (ps := [a.pv]) rfl rfl ?_
  rw [call_at _ (by omega), t_is_action]
  have hs : ∀ s : Str, inB (.v (.str s)) (.v g_ACTIONS) [] = some true → Q (.v (.bl true)) μ → WpE (bodyM 1 (b_is_action (call (n - 1))) [.v (.str s)] []) (fun r _ => ∃ p, r = .v p ∧ Q (.v p) μ) (fun c ns vs _ => X c ns vs μ) := by
    intro s h q
    simp_arith [b_is_action, h]
    exact ⟨_, rfl, q⟩
  cases a with
  | jump k =>
    obtain ⟨k1, k2⟩ := ha
    have e1 : (1 : Int) ≤ (k : Nat) := by omega
    have e2 : ((k : Nat) : Int) ≤ 9 := by omega
    simp_arith [b_is_action, Actn.pv]
    refine call_v (ps := [.int k, .int 1, .int 9]) rfl rfl ?_
    rw [call_at _ (by omega), t_is_number]
    simp_arith [b_is_number, e1, e2]
    exact ⟨_, rfl, _, rfl, q⟩
  | ok => exact hs _ rfl q
  | bad => exact hs _ rfl q
  | die => exact hs _ rfl q
  | done => exact hs _ rfl q
  | ignore => exact hs _ rfl q
  | reset => exact hs _ rfl q
theorem table_of_sp {n : Nat} (hn : 3 ≤ n) (t : Tb) (ht : t.Ok) {μ : Sto} {Q : EV → Sto → Prop} {X : XQ} (q : Q (.v t.pv) μ) :
    WpE (callS (call n f_table_of) 1 [.v t.pv] μ) Q X := by
  refine call_v (ps := [t.pv]) rfl rfl ?_
  rw [call_at _ (by omega), t_table_of]
  obtain ⟨h1, h2, h3, h4⟩ := ht
  simp_arith [b_table_of, Tb.pv, g_RESULTS_eq]
  refine is_act_sp (by omega) _ h1 ?_
  simp_arith []
  refine is_act_sp (by omega) _ h2 ?_
  simp_arith []
  refine is_act_sp (by omega) _ h3 ?_
  simp_arith []
  refine is_act_sp (by omega) _ h4 ?_
  simp_arith [blsOf, Option.map]
  exact ⟨_, rfl, q⟩
theorem rule_sp {n : Nat} (hn : 4 ≤ n) (m : Str) (hm : WordOk m) (t : Tb) (ht : t.Ok) {μ : Sto} {Q : EV → Sto → Prop} {X : XQ} (q : Q (.v (ruPV (m, t))) μ) :
    WpE (makeS "Rule" (call n f_Rule_init) [.v (.str m), .v t.pv] μ) Q X := by
  refine make_s (ps := [.str m, t.pv]) rfl ?_
  rw [call_at _ (by omega), t_Rule_init]
  simp_arith [b_Rule_init]
  refine is_word_sp (by omega) _ hm ?_
  simp_arith []
  refine table_of_sp (by omega) _ ht ?_
  simp_arith [show isNon (.v t.pv) = some false from rfl, Option.getD]
  refine table_of_sp (by omega) _ ht ?_
  simp_arith []
  exact ⟨_, [.str m, t.pv], _, rfl, q⟩
end T


set_option Elab.async false
set_option linter.all false
set_option maxRecDepth 100000
set_option maxHeartbeats 4000000
set_option pp.maxSteps 250
namespace T
open PySem PySem.Spec L2 G P M
local macro_rules | `(tactic| simp_arith [$ls,*]) => `(tactic| simp -failIfUnchanged -dsimp only [P.evK_eq, P.optK_some, ↓P.w_ok, ↓P.w_exc, ↓P.w_no, ↓P.w_bind, ↓P.s_nx, ↓P.s_rt, ↓P.s_bk, ↓P.s_ct, ↓P.s_exc, ↓P.s_no, ↓P.s_stm, ↓P.xS_eq, ↓P.s_seqm, ↓P.s_turnm, ↓P.w_fin, ↓P.seqK_nx, ↓P.seqK_rt, ↓P.seqK_bk, ↓P.seqK_ct, ↓P.seqK_exc, ↓P.turnK_nx, ↓P.turnK_ct, ↓P.turnK_bk, ↓P.turnK_rt, ↓P.turnK_exc, ↓P.finK_nx, ↓P.finK_rt, ↓P.finK_exc, ↓P.w_var0, ↓P.upd0, ↓P.w_var1, ↓P.upd1, ↓P.w_var2, ↓P.upd2, ↓P.w_var3, ↓P.upd3, ↓P.w_var4, ↓P.upd4, ↓P.w_var5, ↓P.upd5, ↓P.w_var6, ↓P.upd6, ↓P.w_var7, ↓P.upd7, ↓P.w_var8, ↓P.upd8, ↓P.w_var9, ↓P.upd9, ↓P.w_var10, ↓P.upd10, ↓P.w_var11, ↓P.upd11, ↓P.w_var12, ↓P.upd12, ↓P.w_var13, ↓P.upd13, ↓P.w_var14, ↓P.upd14, ↓P.w_var15, ↓P.upd15, ↓P.w_var16, ↓P.upd16, ↓P.w_var17, ↓P.upd17, ↓P.w_var18, ↓P.upd18, ↓P.w_var19, ↓P.upd19, ↓P.w_var20, ↓P.upd20, ↓P.w_var21, ↓P.upd21, ↓P.w_var22, ↓P.upd22, ↓P.w_var23, ↓P.upd23, ↓P.w_var24, ↓P.upd24, ↓P.w_var25, ↓P.upd25, P.at0, P.ixN0, P.at1, P.ixN1, P.at2, P.ixN2, P.at3, P.ixN3, P.at4, P.ixN4, P.at5, P.ixN5, P.at6, P.ixN6, P.at7, P.ixN7, P.at8, P.ixN8, P.at9, P.ixN9, P.at10, P.ixN10, P.at11, P.ixN11, P.at12, P.ixN12, ↓P.w_cM, ↓P.w_opM, ↓P.w_unM, ↓P.w_blE, ↓P.w_andVM, ↓P.w_orVM, ↓P.w_notVM, ↓P.w_ifM, ↓P.w_chainM, ↓P.w_nilM, ↓P.w_consM, P.sizeL, ↓P.vals0, ↓P.vals1, ↓P.vals2, ↓P.vals3, ↓P.vals4, ↓P.vals5, ↓P.vals6, ↓P.vals7, ↓P.vals8, ↓P.vals9, ↓P.vals10, ↓P.vals11, ↓P.vals12, ↓P.w_tupM, ↓P.w_lstM, ↓P.w_lstC, ↓P.w_cbM, ↓P.w_tstM, ↓P.w_tandM, ↓P.w_torM, ↓P.w_tnotM, ↓P.w_tyesM, ↓P.s_nxS, ↓P.s_bkS, ↓P.s_ctS, ↓P.s_retN, ↓P.s_noS, ↓P.s_seqS, ↓P.s_retS, ↓P.s_dropS, ↓P.s_ifS, ↓P.s_setS, ↓P.s_asgS, ↓P.w_nameG, ↓P.w_nilG, ↓P.w_consG, ↓P.w_tupG1, ↓P.w_tupG2, ↓P.w_tupG3, ↓P.w_tupG4, ↓P.parK_eq, ↓P.par3K_eq, ↓P.s_parS, ↓P.s_par3S, ↓P.augK_eq, ↓P.s_aug0, ↓P.s_aug1, ↓P.s_aug2, ↓P.s_aug3, ↓P.s_aug4, ↓P.s_aug5, ↓P.s_aug6, ↓P.s_aug7, ↓P.s_aug8, ↓P.s_aug9, ↓P.s_aug10, ↓P.s_aug11, ↓P.s_aug12, ↓P.s_aug13, ↓P.s_aug14, ↓P.s_aug15, ↓P.s_loop0, ↓P.s_loop1, ↓P.s_forS, ↓P.cellK_eq, P.lstCK_eq, P.lstK_eq, ↓P.seqVK_l, ↓P.seqVK_f, ↓P.tupVK_eq, P.rng1K_eq, ↓P.tup1K_eq, ↓P.str1K_eq, ↓P.intK_eq, P.strsK_eq, P.v_sub, P.v_lt, P.v_le, P.v_gt, P.v_ge, ↓P.v_mul, ↓P.v_fdiv, ↓P.v_mod, P.v_pow, P.v_addI, P.v_addT, P.v_addL, P.v_eqI, P.v_neI, P.v_eqS, P.v_neS, P.v_isN, P.v_notN, ↓P.v_ixT, ↓P.v_ixL, ↓P.v_ixF, P.ixCK_l, P.ixCK_d, ↓P.v_ixC, ↓P.v_ixD, P.v_lenT, P.v_lenL, P.v_lenF, P.v_int, P.v_min2, P.v_max2, P.v_tupL, ↓P.w_callM, ↓P.w_callWN, ↓P.w_makeM, ↓P.w_makeN, ↓P.w_makeWN, ↓P.w_fldM, ↓P.v_fld, P.insK_eq, ↓P.v_fldC, ↓P.w_frM, P.v_frV, ↓P.v_frC, ↓P.w_bmC, ↓P.w_itSeqM, ↓P.w_itTupM, ↓P.w_rng1M, ↓P.w_subG, ↓P.w_setO, ↓P.v_append, ↓P.v_popAt, ↓P.w_lcN, ↓P.w_sortSetM, ↓P.w_body, ↓P.clsCK_eq, ↓P.clsK_v, ↓P.clsK_c, ↓P.w_callWn, ↓P.w_methM, ↓P.w_methW, ↓P.nonK_eq, ↓P.w_makeW, ↓P.insPK_eq, ↓P.s_setfS, ↓P.v_isi, P.tnE_v, P.tnP_non, P.tnP_bl, P.tnP_int, P.tnP_str, P.tnP_tup, P.tnP_lst, P.tnP_ins, ↓P.w_enumM, ↓P.w_starM, P.seqE_t, P.seqE_l, P.lstE_l, P.lstE_f, ↓P.w_nxM, ↓P.w_nxT, ↓P.w_propN, ↓P.w_gIxM, ↓P.w_slM, ↓P.w_noPM, ↓P.w_partM, P.v_slT, P.v_slL, P.v_frlL, ↓P.w_revM, P.v_all, P.v_any, P.blsOf_map, P.v_in2, P.v_notIn2, P.v_eq2, P.v_ne2, ↓P.w_starC, P.isB_NoneType_int, P.isB_NoneType_bool, P.isB_NoneType_str, P.isB_NoneType_tuple, P.isB_NoneType_list, P.isB_NoneType_dict, P.isB_int_int, P.isB_int_bool, P.isB_int_str, P.isB_int_tuple, P.isB_int_list, P.isB_int_dict, P.isB_bool_int, P.isB_bool_bool, P.isB_bool_str, P.isB_bool_tuple, P.isB_bool_list, P.isB_bool_dict, P.isB_str_int, P.isB_str_bool, P.isB_str_str, P.isB_str_tuple, P.isB_str_list, P.isB_str_dict, P.isB_tuple_int, P.isB_tuple_bool, P.isB_tuple_str, P.isB_tuple_tuple, P.isB_tuple_list, P.isB_tuple_dict, P.isB_list_int, P.isB_list_bool, P.isB_list_str, P.isB_list_tuple, P.isB_list_list, P.isB_list_dict, P.isB_dict_int, P.isB_dict_bool, P.isB_dict_str, P.isB_dict_tuple, P.isB_dict_list, P.isB_dict_dict, P.valsE_nil, P.valsE_v, P.valsE_c, P.valsE_n, ↓P.valK_eq, ↓P.w_scope, P.startE_eq, ↓P.turnI_nx, ↓P.turnI_ct, ↓P.turnI_bk, ↓P.turnI_rt, ↓P.turnI_exc, ↓P.w_lc0, ↓P.w_lc1, P.ofString_inj, P.eqB_int, P.eqB_str, P.wipeR_nil, P.wipeR_cons, P.v_lenS, P.v_lenC, P.strVK_eq, ↓P.w_itStrM, P.dctE_d, P.dctE_t, P.dctE_l, P.dctE_f, P.v_listT, P.v_listL, P.v_listD, P.v_sortD, P.v_sortL, P.v_dictL, P.v_dictD, P.dzK_eq, ↓P.w_dictZip, P.strsOf_mapS, ↓P.w_tupIxM, ↓P.w_ownAdd, ↓P.w_dnew, ↓P.w_disp, P.dispK_1, P.keyP_str, P.v_orD, ↓P.w_sortSetTM, ↓P.w_lc2, P.strsK_app, P.rgK_eq, ↓P.w_rgList, T.fc_acts_Rule, T.fc_asked_rules_Run, T.fc_asks_Rule, T.fc_depth_Stack, T.fc_mark_Run, T.fc_names_Stack, T.fc_parts_Stack, T.fc_steps_Stack, T.fc_told_Run, T.ib_Rule, T.io_Rule_Rule, T.io_Rule_Run, T.io_Rule_Stack, T.iy_Rule_int, T.iy_Rule_bool, T.iy_Rule_str, T.iy_Rule_tuple, T.iy_Rule_list, T.iy_Rule_dict, T.ib_Run, T.io_Run_Rule, T.io_Run_Run, T.io_Run_Stack, T.iy_Run_int, T.iy_Run_bool, T.iy_Run_str, T.iy_Run_tuple, T.iy_Run_list, T.iy_Run_dict, T.ib_Stack, T.io_Stack_Rule, T.io_Stack_Run, T.io_Stack_Stack, T.iy_Stack_int, T.iy_Stack_bool, T.iy_Stack_str, T.iy_Stack_tuple, T.iy_Stack_list, T.iy_Stack_dict, T.pn_Rule_0, T.pv_Rule_0, T.lk_Rule_1_0, T.pn_Rule_1_0, T.pv_Rule_1_0, T.pn_Rule_1, T.pv_Rule_1, T.lk_Rule_2_0, T.pn_Rule_2_0, T.pv_Rule_2_0, T.lk_Rule_2_1, T.pn_Rule_2_1, T.pv_Rule_2_1, T.nc_Rule_action_for_0, T.nc_Rule_action_for_1, T.nc_Rule_action_for_2, T.pn_Run_0, T.pv_Run_0, T.lk_Run_1_0, T.pn_Run_1_0, T.pv_Run_1_0, T.pn_Run_1, T.pv_Run_1, T.lk_Run_2_0, T.pn_Run_2_0, T.pv_Run_2_0, T.lk_Run_2_1, T.pn_Run_2_1, T.pv_Run_2_1, T.pn_Run_2, T.pv_Run_2, T.lk_Run_3_0, T.pn_Run_3_0, T.pv_Run_3_0, T.lk_Run_3_1, T.pn_Run_3_1, T.pv_Run_3_1, T.lk_Run_3_2, T.pn_Run_3_2, T.pv_Run_3_2, T.nc_Run_ended_0, T.nc_Run_ended_1, T.nc_Run_ended_2, T.nc_Run_ended_3, T.nc_Run_outcome_0, T.nc_Run_outcome_1, T.nc_Run_outcome_2, T.nc_Run_outcome_3, T.pn_Stack_0, T.pv_Stack_0, T.lk_Stack_1_0, T.pn_Stack_1_0, T.pv_Stack_1_0, T.pn_Stack_1, T.pv_Stack_1, T.lk_Stack_2_0, T.pn_Stack_2_0, T.pv_Stack_2_0, T.lk_Stack_2_1, T.pn_Stack_2_1, T.pv_Stack_2_1, T.pn_Stack_2, T.pv_Stack_2, T.lk_Stack_3_0, T.pn_Stack_3_0, T.pv_Stack_3_0, T.lk_Stack_3_1, T.pn_Stack_3_1, T.pv_Stack_3_1, T.lk_Stack_3_2, T.pn_Stack_3_2, T.pv_Stack_3_2, T.pn_Stack_3, T.pv_Stack_3, T.lk_Stack_4_0, T.pn_Stack_4_0, T.pv_Stack_4_0, T.lk_Stack_4_1, T.pn_Stack_4_1, T.pv_Stack_4_1, T.lk_Stack_4_2, T.pn_Stack_4_2, T.pv_Stack_4_2, T.lk_Stack_4_3, T.pn_Stack_4_3, T.pv_Stack_4_3, T.nc_Stack___add___0, T.nc_Stack___add___1, T.nc_Stack___add___2, T.nc_Stack___add___3, T.nc_Stack___add___4, T.in_ok, T.in_bad, T.eq_reset, T.eq_die, T.eq_done, T.eq_none, T.eq_good, T.in_letter, eq_self, decide_true, decide_false, String.reduceEq, String.reduceNe, Bool.not_eq_eq_eq_not, List.length_map, List.map_cons, List.map_nil, List.replicate_succ, List.replicate_zero, decide_eq_true_eq, decide_eq_false_iff_not, Bool.not_eq_true', Bool.not_eq_false', Bool.not_true, Bool.not_false, if_true, if_false, List.getElem?_cons_zero, List.getElem?_cons_succ, List.set_cons_zero, List.set_cons_succ, List.cons_append, List.nil_append, List.length_cons, List.length_nil, and_true, true_and, ↓reduceIte, reduceCtorEq, Int.reduceLT, Int.reduceLE, Int.reduceEq, Int.reduceNe, Int.reduceAdd, Int.reduceSub, Int.reduceMul, Int.reduceDiv, Int.reduceMod, Int.reducePow, Int.reduceNeg, Int.reduceToNat, P.natAbs10, Nat.reduceAdd, Nat.reduceSub, Nat.reduceMul, Nat.reduceLT, Nat.reduceLeDiff, Nat.reduceEqDiff, Nat.reducePow, or_true, true_or, and_self, not_true_eq_false, not_false_eq_true, Bool.false_eq_true, Bool.true_eq_false, $ls,*])
/-! ### stacks -/
theorem tn_rule (x : Str × Tb) : tnP (ruPV x) = some (.o "Rule") := (Eq.trans rfl rfl)
local macro_rules | `(tactic| simp_arith [$ls,*]) => `(tactic| simp -failIfUnchanged -dsimp only [P.evK_eq, P.optK_some, ↓P.w_ok, ↓P.w_exc, ↓P.w_no, ↓P.w_bind, ↓P.s_nx, ↓P.s_rt, ↓P.s_bk, ↓P.s_ct, ↓P.s_exc, ↓P.s_no, ↓P.s_stm, ↓P.xS_eq, ↓P.s_seqm, ↓P.s_turnm, ↓P.w_fin, ↓P.seqK_nx, ↓P.seqK_rt, ↓P.seqK_bk, ↓P.seqK_ct, ↓P.seqK_exc, ↓P.turnK_nx, ↓P.turnK_ct, ↓P.turnK_bk, ↓P.turnK_rt, ↓P.turnK_exc, ↓P.finK_nx, ↓P.finK_rt, ↓P.finK_exc, ↓P.w_var0, ↓P.upd0, ↓P.w_var1, ↓P.upd1, ↓P.w_var2, ↓P.upd2, ↓P.w_var3, ↓P.upd3, ↓P.w_var4, ↓P.upd4, ↓P.w_var5, ↓P.upd5, ↓P.w_var6, ↓P.upd6, ↓P.w_var7, ↓P.upd7, ↓P.w_var8, ↓P.upd8, ↓P.w_var9, ↓P.upd9, ↓P.w_var10, ↓P.upd10, ↓P.w_var11, ↓P.upd11, ↓P.w_var12, ↓P.upd12, ↓P.w_var13, ↓P.upd13, ↓P.w_var14, ↓P.upd14, ↓P.w_var15, ↓P.upd15, ↓P.w_var16, ↓P.upd16, ↓P.w_var17, ↓P.upd17, ↓P.w_var18, ↓P.upd18, ↓P.w_var19, ↓P.upd19, ↓P.w_var20, ↓P.upd20, ↓P.w_var21, ↓P.upd21, ↓P.w_var22, ↓P.upd22, ↓P.w_var23, ↓P.upd23, ↓P.w_var24, ↓P.upd24, ↓P.w_var25, ↓P.upd25, P.at0, P.ixN0, P.at1, P.ixN1, P.at2, P.ixN2, P.at3, P.ixN3, P.at4, P.ixN4, P.at5, P.ixN5, P.at6, P.ixN6, P.at7, P.ixN7, P.at8, P.ixN8, P.at9, P.ixN9, P.at10, P.ixN10, P.at11, P.ixN11, P.at12, P.ixN12, ↓P.w_cM, ↓P.w_opM, ↓P.w_unM, ↓P.w_blE, ↓P.w_andVM, ↓P.w_orVM, ↓P.w_notVM, ↓P.w_ifM, ↓P.w_chainM, ↓P.w_nilM, ↓P.w_consM, P.sizeL, ↓P.vals0, ↓P.vals1, ↓P.vals2, ↓P.vals3, ↓P.vals4, ↓P.vals5, ↓P.vals6, ↓P.vals7, ↓P.vals8, ↓P.vals9, ↓P.vals10, ↓P.vals11, ↓P.vals12, ↓P.w_tupM, ↓P.w_lstM, ↓P.w_lstC, ↓P.w_cbM, ↓P.w_tstM, ↓P.w_tandM, ↓P.w_torM, ↓P.w_tnotM, ↓P.w_tyesM, ↓P.s_nxS, ↓P.s_bkS, ↓P.s_ctS, ↓P.s_retN, ↓P.s_noS, ↓P.s_seqS, ↓P.s_retS, ↓P.s_dropS, ↓P.s_ifS, ↓P.s_setS, ↓P.s_asgS, ↓P.w_nameG, ↓P.w_nilG, ↓P.w_consG, ↓P.w_tupG1, ↓P.w_tupG2, ↓P.w_tupG3, ↓P.w_tupG4, ↓P.parK_eq, ↓P.par3K_eq, ↓P.s_parS, ↓P.s_par3S, ↓P.augK_eq, ↓P.s_aug0, ↓P.s_aug1, ↓P.s_aug2, ↓P.s_aug3, ↓P.s_aug4, ↓P.s_aug5, ↓P.s_aug6, ↓P.s_aug7, ↓P.s_aug8, ↓P.s_aug9, ↓P.s_aug10, ↓P.s_aug11, ↓P.s_aug12, ↓P.s_aug13, ↓P.s_aug14, ↓P.s_aug15, ↓P.s_loop0, ↓P.s_loop1, ↓P.s_forS, ↓P.cellK_eq, P.lstCK_eq, P.lstK_eq, ↓P.seqVK_l, ↓P.seqVK_f, ↓P.tupVK_eq, P.rng1K_eq, ↓P.tup1K_eq, ↓P.str1K_eq, ↓P.intK_eq, P.strsK_eq, P.v_sub, P.v_lt, P.v_le, P.v_gt, P.v_ge, ↓P.v_mul, ↓P.v_fdiv, ↓P.v_mod, P.v_pow, P.v_addI, P.v_addT, P.v_addL, P.v_eqI, P.v_neI, P.v_eqS, P.v_neS, P.v_isN, P.v_notN, ↓P.v_ixT, ↓P.v_ixL, ↓P.v_ixF, P.ixCK_l, P.ixCK_d, ↓P.v_ixC, ↓P.v_ixD, P.v_lenT, P.v_lenL, P.v_lenF, P.v_int, P.v_min2, P.v_max2, P.v_tupL, ↓P.w_callM, ↓P.w_callWN, ↓P.w_makeM, ↓P.w_makeN, ↓P.w_makeWN, ↓P.w_fldM, ↓P.v_fld, P.insK_eq, ↓P.v_fldC, ↓P.w_frM, P.v_frV, ↓P.v_frC, ↓P.w_bmC, ↓P.w_itSeqM, ↓P.w_itTupM, ↓P.w_rng1M, ↓P.w_subG, ↓P.w_setO, ↓P.v_append, ↓P.v_popAt, ↓P.w_lcN, ↓P.w_sortSetM, ↓P.w_body, ↓P.clsCK_eq, ↓P.clsK_v, ↓P.clsK_c, ↓P.w_callWn, ↓P.w_methM, ↓P.w_methW, ↓P.nonK_eq, ↓P.w_makeW, ↓P.insPK_eq, ↓P.s_setfS, ↓P.v_isi, P.tnE_v, P.tnP_non, P.tnP_bl, P.tnP_int, P.tnP_str, P.tnP_tup, P.tnP_lst, P.tnP_ins, ↓P.w_enumM, ↓P.w_starM, P.seqE_t, P.seqE_l, P.lstE_l, P.lstE_f, ↓P.w_nxM, ↓P.w_nxT, ↓P.w_propN, ↓P.w_gIxM, ↓P.w_slM, ↓P.w_noPM, ↓P.w_partM, P.v_slT, P.v_slL, P.v_frlL, ↓P.w_revM, P.v_all, P.v_any, P.blsOf_map, P.v_in2, P.v_notIn2, P.v_eq2, P.v_ne2, ↓P.w_starC, P.isB_NoneType_int, P.isB_NoneType_bool, P.isB_NoneType_str, P.isB_NoneType_tuple, P.isB_NoneType_list, P.isB_NoneType_dict, P.isB_int_int, P.isB_int_bool, P.isB_int_str, P.isB_int_tuple, P.isB_int_list, P.isB_int_dict, P.isB_bool_int, P.isB_bool_bool, P.isB_bool_str, P.isB_bool_tuple, P.isB_bool_list, P.isB_bool_dict, P.isB_str_int, P.isB_str_bool, P.isB_str_str, P.isB_str_tuple, P.isB_str_list, P.isB_str_dict, P.isB_tuple_int, P.isB_tuple_bool, P.isB_tuple_str, P.isB_tuple_tuple, P.isB_tuple_list, P.isB_tuple_dict, P.isB_list_int, P.isB_list_bool, P.isB_list_str, P.isB_list_tuple, P.isB_list_list, P.isB_list_dict, P.isB_dict_int, P.isB_dict_bool, P.isB_dict_str, P.isB_dict_tuple, P.isB_dict_list, P.isB_dict_dict, P.valsE_nil, P.valsE_v, P.valsE_c, P.valsE_n, ↓P.valK_eq, ↓P.w_scope, P.startE_eq, ↓P.turnI_nx, ↓P.turnI_ct, ↓P.turnI_bk, ↓P.turnI_rt, ↓P.turnI_exc, ↓P.w_lc0, ↓P.w_lc1, P.ofString_inj, P.eqB_int, P.eqB_str, P.wipeR_nil, P.wipeR_cons, P.v_lenS, P.v_lenC, P.strVK_eq, ↓P.w_itStrM, P.dctE_d, P.dctE_t, P.dctE_l, P.dctE_f, P.v_listT, P.v_listL, P.v_listD, P.v_sortD, P.v_sortL, P.v_dictL, P.v_dictD, P.dzK_eq, ↓P.w_dictZip, P.strsOf_mapS, ↓P.w_tupIxM, ↓P.w_ownAdd, ↓P.w_dnew, ↓P.w_disp, P.dispK_1, P.keyP_str, P.v_orD, ↓P.w_sortSetTM, ↓P.w_lc2, P.strsK_app, P.rgK_eq, ↓P.w_rgList, T.fc_acts_Rule, T.fc_asked_rules_Run, T.fc_asks_Rule, T.fc_depth_Stack, T.fc_mark_Run, T.fc_names_Stack, T.fc_parts_Stack, T.fc_steps_Stack, T.fc_told_Run, T.ib_Rule, T.io_Rule_Rule, T.io_Rule_Run, T.io_Rule_Stack, T.iy_Rule_int, T.iy_Rule_bool, T.iy_Rule_str, T.iy_Rule_tuple, T.iy_Rule_list, T.iy_Rule_dict, T.ib_Run, T.io_Run_Rule, T.io_Run_Run, T.io_Run_Stack, T.iy_Run_int, T.iy_Run_bool, T.iy_Run_str, T.iy_Run_tuple, T.iy_Run_list, T.iy_Run_dict, T.ib_Stack, T.io_Stack_Rule, T.io_Stack_Run, T.io_Stack_Stack, T.iy_Stack_int, T.iy_Stack_bool, T.iy_Stack_str, T.iy_Stack_tuple, T.iy_Stack_list, T.iy_Stack_dict, T.pn_Rule_0, T.pv_Rule_0, T.lk_Rule_1_0, T.pn_Rule_1_0, T.pv_Rule_1_0, T.pn_Rule_1, T.pv_Rule_1, T.lk_Rule_2_0, T.pn_Rule_2_0, T.pv_Rule_2_0, T.lk_Rule_2_1, T.pn_Rule_2_1, T.pv_Rule_2_1, T.nc_Rule_action_for_0, T.nc_Rule_action_for_1, T.nc_Rule_action_for_2, T.pn_Run_0, T.pv_Run_0, T.lk_Run_1_0, T.pn_Run_1_0, T.pv_Run_1_0, T.pn_Run_1, T.pv_Run_1, T.lk_Run_2_0, T.pn_Run_2_0, T.pv_Run_2_0, T.lk_Run_2_1, T.pn_Run_2_1, T.pv_Run_2_1, T.pn_Run_2, T.pv_Run_2, T.lk_Run_3_0, T.pn_Run_3_0, T.pv_Run_3_0, T.lk_Run_3_1, T.pn_Run_3_1, T.pv_Run_3_1, T.lk_Run_3_2, T.pn_Run_3_2, T.pv_Run_3_2, T.nc_Run_ended_0, T.nc_Run_ended_1, T.nc_Run_ended_2, T.nc_Run_ended_3, T.nc_Run_outcome_0, T.nc_Run_outcome_1, T.nc_Run_outcome_2, T.nc_Run_outcome_3, T.pn_Stack_0, T.pv_Stack_0, T.lk_Stack_1_0, T.pn_Stack_1_0, T.pv_Stack_1_0, T.pn_Stack_1, T.pv_Stack_1, T.lk_Stack_2_0, T.pn_Stack_2_0, T.pv_Stack_2_0, T.lk_Stack_2_1, T.pn_Stack_2_1, T.pv_Stack_2_1, T.pn_Stack_2, T.pv_Stack_2, T.lk_Stack_3_0, T.pn_Stack_3_0, T.pv_Stack_3_0, T.lk_Stack_3_1, T.pn_Stack_3_1, T.pv_Stack_3_1, T.lk_Stack_3_2, T.pn_Stack_3_2, T.pv_Stack_3_2, T.pn_Stack_3, T.pv_Stack_3, T.lk_Stack_4_0, T.pn_Stack_4_0, T.pv_Stack_4_0, T.lk_Stack_4_1, T.pn_Stack_4_1, T.pv_Stack_4_1, T.lk_Stack_4_2, T.pn_Stack_4_2, T.pv_Stack_4_2, T.lk_Stack_4_3, T.pn_Stack_4_3, T.pv_Stack_4_3, T.nc_Stack___add___0, T.nc_Stack___add___1, T.nc_Stack___add___2, T.nc_Stack___add___3, T.nc_Stack___add___4, T.in_ok, T.in_bad, T.eq_reset, T.eq_die, T.eq_done, T.eq_none, T.eq_good, T.in_letter, T.tn_rule, eq_self, decide_true, decide_false, String.reduceEq, String.reduceNe, Bool.not_eq_eq_eq_not, List.length_map, List.map_cons, List.map_nil, List.replicate_succ, List.replicate_zero, decide_eq_true_eq, decide_eq_false_iff_not, Bool.not_eq_true', Bool.not_eq_false', Bool.not_true, Bool.not_false, if_true, if_false, List.getElem?_cons_zero, List.getElem?_cons_succ, List.set_cons_zero, List.set_cons_succ, List.cons_append, List.nil_append, List.length_cons, List.length_nil, and_true, true_and, ↓reduceIte, reduceCtorEq, Int.reduceLT, Int.reduceLE, Int.reduceEq, Int.reduceNe, Int.reduceAdd, Int.reduceSub, Int.reduceMul, Int.reduceDiv, Int.reduceMod, Int.reducePow, Int.reduceNeg, Int.reduceToNat, P.natAbs10, Nat.reduceAdd, Nat.reduceSub, Nat.reduceMul, Nat.reduceLT, Nat.reduceLeDiff, Nat.reduceEqDiff, Nat.reducePow, or_true, true_or, and_self, not_true_eq_false, not_false_eq_true, Bool.false_eq_true, Bool.true_eq_false, $ls,*])
theorem steps_of_sp {n : Nat} (hn : 1 ≤ n) (e : Ent) {μ : Sto} {Q : EV → Sto → Prop} {X : XQ} (q : Q (.v (.tup ((flat1 e).map ruPV))) μ) :
    WpE (callS (call n f_steps_of) 1 [.v (entPV e)] μ) Q X := by
  refine call_v (ps := [entPV e]) rfl rfl ?_
  rw [call_at _ hn, t_steps_of]
  cases e with
  | rule m t =>
    simp_arith [b_steps_of, entPV]
    exact ⟨_, rfl, q⟩
  | sub es =>
    simp_arith [b_steps_of, entPV]
    exact ⟨_, rfl, q⟩
/-- the thing that is made, behind some entries -/
abbrev stCell (es : List Ent) (i : Nat) : Cell := .ins "Stack" stN [.v (.tup (es.map entPV)), .v (.tup ((flat (es.take i)).map ruPV)), .v (.tup ((namesOf (es.take i)).map PV.str)), .v (.int (deep (es.take i) : Nat))]
theorem stack_init_sp {n : Nat} (hn : 2 ≤ n) (es : List Ent) (h : Lim es) {Q : EV → Sto → Prop} {X : XQ} (q : Q (.v .non) [stCell es es.length]) :
    WpE (call n f_Stack_init [.c 0, .v (.tup (es.map entPV))] [.ins "Stack" [] []]) Q X := by
  rw [call_at _ (by omega), t_Stack_init]
  simp_arith [b_Stack_init]
  refine loop_nat (fun i ρ μ => ∃ a b c d, ρ = [some (.c 0), some (.v (.tup (es.map entPV))), a, b, c, d] ∧ μ = [stCell es i]) ?_ ?_ ?_
  · intro i x ρ μ hx hI
    obtain ⟨a, b, c, d, rfl, rfl⟩ := hI
    rw [M.numb_get, List.getElem?_map] at hx
    cases he : es[i]? with
    | none => rw [he] at hx; cases hx
    | some e =>
      rw [he] at hx
      cases hx
      have hl := h.len
      have hi : i < es.length := (List.getElem?_eq_some_iff.mp he).1
      have ne : ¬ (((0 + i : Nat) : Int) = 12) := by omega
      have l1 := h.take (i + 1)
      have f1 := flat_take_succ es i e he
      have d1 := deep_take_succ es i e he
      have hsz : (flat (es.take i)).length + (flat1 e).length = size (es.take (i + 1)) := by show _ = (flat _).length; rw [f1, List.length_append]
      have hnm : (flat (es.take (i + 1))).length ≤ 12 := l1.rules
      have hd : (if ((deep1 e + 1 : Nat) : Int) > ((deep (es.take i) : Nat) : Int) then ((deep1 e + 1 : Nat) : Int) else ((deep (es.take i) : Nat) : Int)) = ((deep (es.take (i + 1)) : Nat) : Int) := by
        rw [d1]
        split <;> omega
      have d3 := l1.depth
      have n3 : ¬ (((deep (es.take (i + 1)) : Nat) : Int) > 3) := by omega
      have n4 : ¬ (((flat (es.take (i + 1))).length : Int) > 12) := by omega
      have n5 : ¬ (((namesOf (es.take (i + 1))).length : Int) > 6) := by have := l1.names; omega
      have hS : sortU ((flat (es.take (i + 1))).map (·.1)) = namesOf (es.take (i + 1)) := rfl
      have e0 : e = e := rfl
      have tail : ∀ b : Bool, (b = true → ∃ xs, e = .sub xs) → (b = false → deep1 e = 0) → WpE (lcGo (nameG 5) tyesM (nxM (fldM n_asks (Str.ofString "asks") (varM 5))) [some (EV.c 0), some (EV.v (PV.tup (es.map entPV))), some (EV.v (PV.int ((0 + i : Nat) : Int))), some (EV.v (entPV e)), some (EV.v (PV.bl b)), none] (((flat (es.take (i + 1))).map ruPV).map EV.v) [] [Cell.ins "Stack" stN [.v (.tup (es.map entPV)), .v (.tup ((flat (es.take (i + 1))).map ruPV)), .v (.tup ((namesOf (es.take i)).map PV.str)), .v (.int (deep (es.take i) : Nat))]]) (fun ps μ2 => ps = ((flat (es.take (i + 1))).map (·.1)).map PV.str ∧ μ2 = [Cell.ins "Stack" stN [.v (.tup (es.map entPV)), .v (.tup ((flat (es.take (i + 1))).map ruPV)), .v (.tup ((namesOf (es.take i)).map PV.str)), .v (.int (deep (es.take i) : Nat))]]) noX := by
        intro b _ _
        rw [List.map_map]
        refine lc_map (EV.v ∘ ruPV) (fun x => PV.str x.1) _ (fun x _ => ?_) (by rw [sizeL]; omega) ?_
        · simp_arith [Function.comp, ruPV]
        · rw [List.map_map]; exact ⟨rfl, rfl⟩
      have lenS : (((flat (es.take (i + 1))).map (·.1))).length < 64 := by rw [List.length_map]; omega
      have hc : ∀ b : Bool, tnP (entPV e) = some (.o (if b then "Stack" else "Rule")) → True := fun _ _ => trivial
      cases e with
      | rule m t =>
        have te : tnP (entPV (.rule m t)) = some (.o "Rule") := by unfold entPV; rfl
        simp_arith [b_Stack_init_1, te, ne]
        refine steps_of_sp (by omega) _ ?_
        simp_arith [← List.map_append, ← f1, sizeL]
        refine ⟨by have := l1.rules; omega, ?_⟩
        refine (tail false (by simp) (fun _ => rfl)).mono (fun ps μ2 z => ?_) (fun _ _ _ _ z => z.elim)
        obtain ⟨rfl, rfl⟩ := z
        have hd' : (if (1 : Int) > ((deep (es.take i) : Nat) : Int) then (1 : Int) else ((deep (es.take i) : Nat) : Int)) = ((deep (es.take (i + 1)) : Nat) : Int) := hd
        simp_arith [hS, hd', lenS, n3, n4, n5, List.length_map]
        exact ⟨by omega, _, _, _, _, rfl⟩
      | sub xs =>
        have te : tnP (entPV (.sub xs)) = some (.o "Stack") := by unfold entPV; rfl
        simp_arith [b_Stack_init_1, te, ne]
        refine steps_of_sp (by omega) _ ?_
        simp_arith [← List.map_append, ← f1, sizeL]
        refine ⟨by have := l1.rules; omega, ?_⟩
        refine (tail true (fun _ => ⟨_, rfl⟩) (by simp)).mono (fun ps μ2 z => ?_) (fun _ _ _ _ z => z.elim)
        obtain ⟨rfl, rfl⟩ := z
        have hd' : (if ((deep xs : Nat) : Int) + 1 > ((deep (es.take i) : Nat) : Int) then ((deep xs : Nat) : Int) + 1 else ((deep (es.take i) : Nat) : Int)) = ((deep (es.take (i + 1)) : Nat) : Int) := hd
        have ep : entPV (.sub xs) = stPV xs := by rw [entPV]
        simp_arith [hS, ep, hd', lenS, n3, n4, n5, List.length_map]
        exact ⟨by omega, _, _, _, _, rfl⟩
  · rintro ρ μ ⟨a, b, c, d, rfl, rfl⟩
    simp_arith []
    rw [numb_len, List.length_map]
    exact q
  · exact ⟨_, _, _, _, rfl, rfl⟩
theorem make_stack_sp {n : Nat} (hn : 2 ≤ n) (es : List Ent) (h : Lim es) {μ : Sto} {Q : EV → Sto → Prop} {X : XQ} (q : Q (.v (stPV es)) μ) :
    WpE (makeS "Stack" (starC 1 (call n f_Stack_init)) ((es.map entPV).map EV.v) μ) Q X := by
  refine make_s (ps := es.map entPV) rfl ?_
  rw [w_starC]
  have e1 : pvs ((EV.c 0 :: (es.map entPV).map EV.v).drop 1) = some (es.map entPV) := pvs_map _
  rw [e1, optK_some]
  refine ⟨⟨by rw [List.length_map, sizeL]; have := h.len; omega, by simp⟩, ?_⟩
  rw [evK_eq]
  refine stack_init_sp hn es h ⟨_, [_, _, _, _], [], rfl, rfl, ?_⟩
  rw [List.take_length]
  rw [← entPVs_map]
  exact q
/-- with its entries told one by one -/
theorem make_stack0 {n : Nat} (hn : 2 ≤ n) {μ : Sto} {Q : EV → Sto → Prop} {X : XQ} (q : Q (.v (stPV [])) μ) : WpE (makeS "Stack" (starC 1 (call n f_Stack_init)) [] μ) Q X :=
  make_stack_sp hn [] ⟨by decide, by decide, by decide, by decide⟩ q
theorem make_stack1 {n : Nat} (hn : 2 ≤ n) (e : Ent) (h : Lim [e]) {μ : Sto} {Q : EV → Sto → Prop} {X : XQ} (q : Q (.v (stPV [e])) μ) : WpE (makeS "Stack" (starC 1 (call n f_Stack_init)) [.v (entPV e)] μ) Q X :=
  make_stack_sp hn [e] h q
theorem stack_add_sp {n : Nat} (hn : 3 ≤ n) (xs ys : List Ent) (h : Lim (xs ++ ys)) {μ : Sto} {Q : EV → Sto → Prop} {X : XQ} (q : Q (.v (stPV (xs ++ ys))) μ) :
    WpE (callS (call n f_Stack___add__) 2 [.v (stPV xs), .v (stPV ys)] μ) Q X := by
  refine call_v (ps := [stPV xs, stPV ys]) rfl rfl ?_
  rw [call_at _ (by omega), t_Stack___add__]
  have hl := h.len
  rw [List.length_append] at hl
  simp_arith [b_Stack___add__, entPVs_map, sizeL]
  refine ⟨by omega, ?_⟩
  rw [← List.map_append]
  refine make_stack_sp (by omega) _ h ?_
  simp_arith []
  exact ⟨_, rfl, q⟩
theorem size_take_succ (es : List Ent) (i : Nat) (e : Ent) (h : es[i]? = some e) : size (es.take (i + 1)) = size (es.take i) + size1 e := by
  show (flat _).length = (flat _).length + (flat1 _).length
  rw [flat_take_succ es i e h, List.length_append]
/-- the numbers of the first rules -/
def firsts (es : List Ent) (f : Nat) (k : Nat) : List PV := (List.range k).map fun i => PV.int ((f + size (es.take i) : Nat) : Int)
theorem firsts_succ (es : List Ent) (f k : Nat) : firsts es f (k + 1) = firsts es f k ++ [PV.int ((f + size (es.take k) : Nat) : Int)] := by
  unfold firsts
  rw [List.range_succ, List.map_append]
  rfl
theorem firsts_of_sp {n : Nat} (hn : 2 ≤ n) (es : List Ent) (h : es.length ≤ 12) (f : Nat) {μ : Sto} {Q : EV → Sto → Prop} {X : XQ} (q : Q (.v (.lst (firsts es f es.length))) μ) :
    WpE (callS (call n f_firsts_of) 2 [.v (stPV es), .v (.int f)] μ) Q X := by
  refine call_v (ps := [stPV es, .int f]) rfl rfl ?_
  rw [call_at _ (by omega), t_firsts_of]
  simp_arith [b_firsts_of, entPVs_map]
  refine loop_nat (fun i ρ μ => ∃ a, ρ = [some (.v (stPV es)), some (.v (.int ((f + size (es.take i) : Nat) : Int))), some (.c 0), a] ∧ μ = [.lst (firsts es f i)]) ?_ ?_ ⟨_, rfl, rfl⟩
  · intro i x ρ μ hx hI
    obtain ⟨a, rfl, rfl⟩ := hI
    rw [List.getElem?_map, List.getElem?_map] at hx
    cases he : es[i]? with
    | none => rw [he] at hx; cases hx
    | some e =>
      rw [he] at hx
      cases hx
      have hi : i < es.length := (List.getElem?_eq_some_iff.mp he).1
      have hl : (firsts es f i).length = i := by unfold firsts; rw [List.length_map, List.length_range]
      simp_arith [b_firsts_of_1, hl, sizeL]
      refine ⟨by omega, ?_⟩
      refine steps_of_sp (by omega) _ ?_
      have e2 : ((f + size (es.take i) : Nat) : Int) + (((flat1 e).length : Nat) : Int) = ((f + size (es.take (i + 1)) : Nat) : Int) := by
        rw [size_take_succ es i e he]; show _ + ((size1 e : Nat) : Int) = _; omega
      simp_arith [List.length_map, e2, ← firsts_succ]
      exact ⟨_, rfl⟩
  · rintro ρ μ ⟨a, rfl, rfl⟩
    simp_arith []
    exact ⟨_, rfl, q⟩
end T


set_option Elab.async false
set_option linter.all false
set_option maxRecDepth 100000
set_option maxHeartbeats 4000000
set_option pp.maxSteps 250
namespace T
open PySem PySem.Spec L2 G P M
local macro_rules | `(tactic| simp_arith [$ls,*]) => `(tactic| simp -failIfUnchanged -dsimp only [P.evK_eq, P.optK_some, ↓P.w_ok, ↓P.w_exc, ↓P.w_no, ↓P.w_bind, ↓P.s_nx, ↓P.s_rt, ↓P.s_bk, ↓P.s_ct, ↓P.s_exc, ↓P.s_no, ↓P.s_stm, ↓P.xS_eq, ↓P.s_seqm, ↓P.s_turnm, ↓P.w_fin, ↓P.seqK_nx, ↓P.seqK_rt, ↓P.seqK_bk, ↓P.seqK_ct, ↓P.seqK_exc, ↓P.turnK_nx, ↓P.turnK_ct, ↓P.turnK_bk, ↓P.turnK_rt, ↓P.turnK_exc, ↓P.finK_nx, ↓P.finK_rt, ↓P.finK_exc, ↓P.w_var0, ↓P.upd0, ↓P.w_var1, ↓P.upd1, ↓P.w_var2, ↓P.upd2, ↓P.w_var3, ↓P.upd3, ↓P.w_var4, ↓P.upd4, ↓P.w_var5, ↓P.upd5, ↓P.w_var6, ↓P.upd6, ↓P.w_var7, ↓P.upd7, ↓P.w_var8, ↓P.upd8, ↓P.w_var9, ↓P.upd9, ↓P.w_var10, ↓P.upd10, ↓P.w_var11, ↓P.upd11, ↓P.w_var12, ↓P.upd12, ↓P.w_var13, ↓P.upd13, ↓P.w_var14, ↓P.upd14, ↓P.w_var15, ↓P.upd15, ↓P.w_var16, ↓P.upd16, ↓P.w_var17, ↓P.upd17, ↓P.w_var18, ↓P.upd18, ↓P.w_var19, ↓P.upd19, ↓P.w_var20, ↓P.upd20, ↓P.w_var21, ↓P.upd21, ↓P.w_var22, ↓P.upd22, ↓P.w_var23, ↓P.upd23, ↓P.w_var24, ↓P.upd24, ↓P.w_var25, ↓P.upd25, P.at0, P.ixN0, P.at1, P.ixN1, P.at2, P.ixN2, P.at3, P.ixN3, P.at4, P.ixN4, P.at5, P.ixN5, P.at6, P.ixN6, P.at7, P.ixN7, P.at8, P.ixN8, P.at9, P.ixN9, P.at10, P.ixN10, P.at11, P.ixN11, P.at12, P.ixN12, ↓P.w_cM, ↓P.w_opM, ↓P.w_unM, ↓P.w_blE, ↓P.w_andVM, ↓P.w_orVM, ↓P.w_notVM, ↓P.w_ifM, ↓P.w_chainM, ↓P.w_nilM, ↓P.w_consM, P.sizeL, ↓P.vals0, ↓P.vals1, ↓P.vals2, ↓P.vals3, ↓P.vals4, ↓P.vals5, ↓P.vals6, ↓P.vals7, ↓P.vals8, ↓P.vals9, ↓P.vals10, ↓P.vals11, ↓P.vals12, ↓P.w_tupM, ↓P.w_lstM, ↓P.w_lstC, ↓P.w_cbM, ↓P.w_tstM, ↓P.w_tandM, ↓P.w_torM, ↓P.w_tnotM, ↓P.w_tyesM, ↓P.s_nxS, ↓P.s_bkS, ↓P.s_ctS, ↓P.s_retN, ↓P.s_noS, ↓P.s_seqS, ↓P.s_retS, ↓P.s_dropS, ↓P.s_ifS, ↓P.s_setS, ↓P.s_asgS, ↓P.w_nameG, ↓P.w_nilG, ↓P.w_consG, ↓P.w_tupG1, ↓P.w_tupG2, ↓P.w_tupG3, ↓P.w_tupG4, ↓P.parK_eq, ↓P.par3K_eq, ↓P.s_parS, ↓P.s_par3S, ↓P.augK_eq, ↓P.s_aug0, ↓P.s_aug1, ↓P.s_aug2, ↓P.s_aug3, ↓P.s_aug4, ↓P.s_aug5, ↓P.s_aug6, ↓P.s_aug7, ↓P.s_aug8, ↓P.s_aug9, ↓P.s_aug10, ↓P.s_aug11, ↓P.s_aug12, ↓P.s_aug13, ↓P.s_aug14, ↓P.s_aug15, ↓P.s_loop0, ↓P.s_loop1, ↓P.s_forS, ↓P.cellK_eq, P.lstCK_eq, P.lstK_eq, ↓P.seqVK_l, ↓P.seqVK_f, ↓P.tupVK_eq, P.rng1K_eq, ↓P.tup1K_eq, ↓P.str1K_eq, ↓P.intK_eq, P.strsK_eq, P.v_sub, P.v_lt, P.v_le, P.v_gt, P.v_ge, ↓P.v_mul, ↓P.v_fdiv, ↓P.v_mod, P.v_pow, P.v_addI, P.v_addT, P.v_addL, P.v_eqI, P.v_neI, P.v_eqS, P.v_neS, P.v_isN, P.v_notN, ↓P.v_ixT, ↓P.v_ixL, ↓P.v_ixF, P.ixCK_l, P.ixCK_d, ↓P.v_ixC, ↓P.v_ixD, P.v_lenT, P.v_lenL, P.v_lenF, P.v_int, P.v_min2, P.v_max2, P.v_tupL, ↓P.w_callM, ↓P.w_callWN, ↓P.w_makeM, ↓P.w_makeN, ↓P.w_makeWN, ↓P.w_fldM, ↓P.v_fld, P.insK_eq, ↓P.v_fldC, ↓P.w_frM, P.v_frV, ↓P.v_frC, ↓P.w_bmC, ↓P.w_itSeqM, ↓P.w_itTupM, ↓P.w_rng1M, ↓P.w_subG, ↓P.w_setO, ↓P.v_append, ↓P.v_popAt, ↓P.w_lcN, ↓P.w_sortSetM, ↓P.w_body, ↓P.clsCK_eq, ↓P.clsK_v, ↓P.clsK_c, ↓P.w_callWn, ↓P.w_methM, ↓P.w_methW, ↓P.nonK_eq, ↓P.w_makeW, ↓P.insPK_eq, ↓P.s_setfS, ↓P.v_isi, P.tnE_v, P.tnP_non, P.tnP_bl, P.tnP_int, P.tnP_str, P.tnP_tup, P.tnP_lst, P.tnP_ins, ↓P.w_enumM, ↓P.w_starM, P.seqE_t, P.seqE_l, P.lstE_l, P.lstE_f, ↓P.w_nxM, ↓P.w_nxT, ↓P.w_propN, ↓P.w_gIxM, ↓P.w_slM, ↓P.w_noPM, ↓P.w_partM, P.v_slT, P.v_slL, P.v_frlL, ↓P.w_revM, P.v_all, P.v_any, P.blsOf_map, P.v_in2, P.v_notIn2, P.v_eq2, P.v_ne2, ↓P.w_starC, P.isB_NoneType_int, P.isB_NoneType_bool, P.isB_NoneType_str, P.isB_NoneType_tuple, P.isB_NoneType_list, P.isB_NoneType_dict, P.isB_int_int, P.isB_int_bool, P.isB_int_str, P.isB_int_tuple, P.isB_int_list, P.isB_int_dict, P.isB_bool_int, P.isB_bool_bool, P.isB_bool_str, P.isB_bool_tuple, P.isB_bool_list, P.isB_bool_dict, P.isB_str_int, P.isB_str_bool, P.isB_str_str, P.isB_str_tuple, P.isB_str_list, P.isB_str_dict, P.isB_tuple_int, P.isB_tuple_bool, P.isB_tuple_str, P.isB_tuple_tuple, P.isB_tuple_list, P.isB_tuple_dict, P.isB_list_int, P.isB_list_bool, P.isB_list_str, P.isB_list_tuple, P.isB_list_list, P.isB_list_dict, P.isB_dict_int, P.isB_dict_bool, P.isB_dict_str, P.isB_dict_tuple, P.isB_dict_list, P.isB_dict_dict, P.valsE_nil, P.valsE_v, P.valsE_c, P.valsE_n, ↓P.valK_eq, ↓P.w_scope, P.startE_eq, ↓P.turnI_nx, ↓P.turnI_ct, ↓P.turnI_bk, ↓P.turnI_rt, ↓P.turnI_exc, ↓P.w_lc0, ↓P.w_lc1, P.ofString_inj, P.eqB_int, P.eqB_str, P.wipeR_nil, P.wipeR_cons, P.v_lenS, P.v_lenC, P.strVK_eq, ↓P.w_itStrM, P.dctE_d, P.dctE_t, P.dctE_l, P.dctE_f, P.v_listT, P.v_listL, P.v_listD, P.v_sortD, P.v_sortL, P.v_dictL, P.v_dictD, P.dzK_eq, ↓P.w_dictZip, P.strsOf_mapS, ↓P.w_tupIxM, ↓P.w_ownAdd, ↓P.w_dnew, ↓P.w_disp, P.dispK_1, P.keyP_str, P.v_orD, ↓P.w_sortSetTM, ↓P.w_lc2, P.strsK_app, P.rgK_eq, ↓P.w_rgList, T.fc_acts_Rule, T.fc_asked_rules_Run, T.fc_asks_Rule, T.fc_depth_Stack, T.fc_mark_Run, T.fc_names_Stack, T.fc_parts_Stack, T.fc_steps_Stack, T.fc_told_Run, T.ib_Rule, T.io_Rule_Rule, T.io_Rule_Run, T.io_Rule_Stack, T.iy_Rule_int, T.iy_Rule_bool, T.iy_Rule_str, T.iy_Rule_tuple, T.iy_Rule_list, T.iy_Rule_dict, T.ib_Run, T.io_Run_Rule, T.io_Run_Run, T.io_Run_Stack, T.iy_Run_int, T.iy_Run_bool, T.iy_Run_str, T.iy_Run_tuple, T.iy_Run_list, T.iy_Run_dict, T.ib_Stack, T.io_Stack_Rule, T.io_Stack_Run, T.io_Stack_Stack, T.iy_Stack_int, T.iy_Stack_bool, T.iy_Stack_str, T.iy_Stack_tuple, T.iy_Stack_list, T.iy_Stack_dict, T.pn_Rule_0, T.pv_Rule_0, T.lk_Rule_1_0, T.pn_Rule_1_0, T.pv_Rule_1_0, T.pn_Rule_1, T.pv_Rule_1, T.lk_Rule_2_0, T.pn_Rule_2_0, T.pv_Rule_2_0, T.lk_Rule_2_1, T.pn_Rule_2_1, T.pv_Rule_2_1, T.nc_Rule_action_for_0, T.nc_Rule_action_for_1, T.nc_Rule_action_for_2, T.pn_Run_0, T.pv_Run_0, T.lk_Run_1_0, T.pn_Run_1_0, T.pv_Run_1_0, T.pn_Run_1, T.pv_Run_1, T.lk_Run_2_0, T.pn_Run_2_0, T.pv_Run_2_0, T.lk_Run_2_1, T.pn_Run_2_1, T.pv_Run_2_1, T.pn_Run_2, T.pv_Run_2, T.lk_Run_3_0, T.pn_Run_3_0, T.pv_Run_3_0, T.lk_Run_3_1, T.pn_Run_3_1, T.pv_Run_3_1, T.lk_Run_3_2, T.pn_Run_3_2, T.pv_Run_3_2, T.nc_Run_ended_0, T.nc_Run_ended_1, T.nc_Run_ended_2, T.nc_Run_ended_3, T.nc_Run_outcome_0, T.nc_Run_outcome_1, T.nc_Run_outcome_2, T.nc_Run_outcome_3, T.pn_Stack_0, T.pv_Stack_0, T.lk_Stack_1_0, T.pn_Stack_1_0, T.pv_Stack_1_0, T.pn_Stack_1, T.pv_Stack_1, T.lk_Stack_2_0, T.pn_Stack_2_0, T.pv_Stack_2_0, T.lk_Stack_2_1, T.pn_Stack_2_1, T.pv_Stack_2_1, T.pn_Stack_2, T.pv_Stack_2, T.lk_Stack_3_0, T.pn_Stack_3_0, T.pv_Stack_3_0, T.lk_Stack_3_1, T.pn_Stack_3_1, T.pv_Stack_3_1, T.lk_Stack_3_2, T.pn_Stack_3_2, T.pv_Stack_3_2, T.pn_Stack_3, T.pv_Stack_3, T.lk_Stack_4_0, T.pn_Stack_4_0, T.pv_Stack_4_0, T.lk_Stack_4_1, T.pn_Stack_4_1, T.pv_Stack_4_1, T.lk_Stack_4_2, T.pn_Stack_4_2, T.pv_Stack_4_2, T.lk_Stack_4_3, T.pn_Stack_4_3, T.pv_Stack_4_3, T.nc_Stack___add___0, T.nc_Stack___add___1, T.nc_Stack___add___2, T.nc_Stack___add___3, T.nc_Stack___add___4, T.in_ok, T.in_bad, T.eq_reset, T.eq_die, T.eq_done, T.eq_none, T.eq_good, T.in_letter, T.tn_rule, eq_self, decide_true, decide_false, String.reduceEq, String.reduceNe, Bool.not_eq_eq_eq_not, List.length_map, List.map_cons, List.map_nil, List.replicate_succ, List.replicate_zero, decide_eq_true_eq, decide_eq_false_iff_not, Bool.not_eq_true', Bool.not_eq_false', Bool.not_true, Bool.not_false, if_true, if_false, List.getElem?_cons_zero, List.getElem?_cons_succ, List.set_cons_zero, List.set_cons_succ, List.cons_append, List.nil_append, List.length_cons, List.length_nil, and_true, true_and, ↓reduceIte, reduceCtorEq, Int.reduceLT, Int.reduceLE, Int.reduceEq, Int.reduceNe, Int.reduceAdd, Int.reduceSub, Int.reduceMul, Int.reduceDiv, Int.reduceMod, Int.reducePow, Int.reduceNeg, Int.reduceToNat, P.natAbs10, Nat.reduceAdd, Nat.reduceSub, Nat.reduceMul, Nat.reduceLT, Nat.reduceLeDiff, Nat.reduceEqDiff, Nat.reducePow, or_true, true_or, and_self, not_true_eq_false, not_false_eq_true, Bool.false_eq_true, Bool.true_eq_false, $ls,*])
/-! ### runs -/
theorem atI_nat {α : Type} {xs : List α} {k : Nat} {x : α} (h : xs[k]? = some x) : atI xs (k : Int) = some x := by
  unfold atI ixN
  have hk : k < xs.length := (List.getElem?_eq_some_iff.mp h).1
  rw [if_pos (Int.natCast_nonneg k), if_pos (by omega)]
  exact h
/-- what modules tell, as the dict has it -/
def Tells (told : PV) (A : Str → Res) (es : List Ent) : Prop := ∃ ks vs, told = .dct ks vs ∧ ∀ x ∈ flat es, getK (.inr x.1) ks vs = some (A x.1).pv
theorem Tells.sub {told : PV} {A : Str → Res} {es xs : List Ent} (h : Tells told A es) (hs : ∀ x ∈ flat xs, x ∈ flat es) : Tells told A xs := by
  obtain ⟨ks, vs, h1, h2⟩ := h
  exact ⟨ks, vs, h1, fun x hx => h2 x (hs x hx)⟩
theorem flat_mem {es : List Ent} {e : Ent} (h : e ∈ es) : ∀ x ∈ flat1 e, x ∈ flat es := by
  induction es with
  | nil => cases h
  | cons a r ih =>
    intro x hx
    rw [flat_cons]
    rcases List.mem_cons.mp h with rfl | h
    · exact List.mem_append_left _ hx
    · exact List.mem_append_right _ (ih h x hx)
theorem size_take_add (es : List Ent) (a b : Nat) : size (es.take (a + b)) = size (es.take a) + size ((es.drop a).take b) := by
  rw [List.take_add]
  show (flat _).length = _
  rw [flat_append, List.length_append]
theorem deep_mem {es xs : List Ent} (h : .sub xs ∈ es) : deep xs + 1 ≤ deep es := by
  induction es with
  | nil => cases h
  | cons a r ih =>
    rw [deep]
    rcases List.mem_cons.mp h with rfl | h
    · rw [deep1]; omega
    · have := ih h; omega
theorem size_mem {es : List Ent} {e : Ent} (h : e ∈ es) : size1 e ≤ size es := by
  induction es with
  | nil => cases h
  | cons a r ih =>
    rw [size_cons]
    rcases List.mem_cons.mp h with rfl | h
    · omega
    · have := ih h; omega
abbrev runC (told : PV) : Cell := .ins "Run" ["told", "asked_rules"] [.v told, .c 1]
abbrev intsP (l : List Nat) : List PV := l.map fun (k : Nat) => PV.int (k : Int)
theorem intsP_append (a b : List Nat) : intsP (a ++ b) = intsP a ++ intsP b := List.map_append
mutual
theorem runE_len (A : Str → Res) : ∀ (e : Ent) (num : Nat) (m b : Mark), (runE A e num m b).2.length ≤ (flat1 e).length
  | .rule m t, num, mk, b => by rw [runE, flat1]; exact Nat.le_refl _
  | .sub es, num, mk, b => by rw [runE, flat1]; exact runL_len A es 0 num mk mk
theorem runL_len (A : Str → Res) : ∀ (es : List Ent) (k num : Nat) (m b : Mark), (runL A es k num m b).2.length ≤ (flat es).length
  | [], k, num, m, b => by rw [runL]; exact Nat.zero_le _
  | e :: r, k + 1, num, m, b => by
    rw [runL, flat, List.length_append]
    have := runL_len A r k (num + size1 e) m b
    omega
  | .rule m t :: r, 0, num, mk, b => by
    rw [runL_rule, flat, List.length_append, flat1, List.length_singleton]
    split
    · rw [List.length_singleton]; omega
    · rw [List.length_cons]
      have := runL_len A r (jumpOf (t.get (A m))) (num + 1) (stepM (t.get (A m)) mk b num) b
      omega
  | .sub es :: r, 0, num, mk, b => by
    rw [runL_sub, flat, List.length_append, flat1, List.length_append]
    have h1 := runL_len A es 0 num mk mk
    have h2 := runL_len A r 0 (num + size es) (runL A es 0 num mk mk).1 b
    omega
end
theorem ended_sp (A : Str → Res) (told : PV) : ∀ (d : Nat) (es : List Ent), deep es ≤ d → GoodL es → es.length ≤ 12 → size es ≤ 12 → Tells told A es → ∀ (n : Nat), d + 2 ≤ n → ∀ (f : Nat) (mk : Mark) (acc : List PV), acc.length + size es ≤ 10000 →
    ∀ {Q : EV → Sto → Prop} {X : XQ}, Q (.v (runL A es 0 f mk mk).1.pv) [runC told, .lst (acc ++ intsP (runL A es 0 f mk mk).2)] →
    WpE (call n f_Run_ended [.c 0, .v (stPV es), .v (.int f), .v mk.pv] [runC told, .lst acc]) Q X := by
  intro d
  induction d with
  | zero => intro es h; have := deep_pos es; omega
  | succ d ih =>
    intro es hd hg hlen hsz ht n hn f mk acc hacc Q X q
    rw [call_at _ (by omega), t_Run_ended]
    simp_arith [b_Run_ended]
    refine firsts_of_sp (by omega) es hlen f ?_
    simp_arith []
    generalize hR : runL A es 0 f mk mk = R at q
    obtain ⟨ks, vs, rfl, htell⟩ := id ht
    refine wh_inv (fun m ρ μ => ∃ (i : Nat) (mark : Mark) (asked : List Nat) (x7 x8 x9 : Option EV), m = es.length - i ∧ asked.length ≤ size (es.take (min i es.length)) ∧
      R = ((runL A (es.drop i) 0 (f + size (es.take i)) mark mk).1, asked ++ (runL A (es.drop i) 0 (f + size (es.take i)) mark mk).2) ∧
      ρ = [some (.c 0), some (.v (stPV es)), some (.v (.int f)), some (.v mark.pv), some (.v mk.pv), some (.v (.int i)), some (.v (.lst (firsts es f es.length))), x7, x8, x9] ∧ μ = [runC (.dct ks vs), .lst (acc ++ intsP asked)])
      ?_ 2000 es.length _ _ (by omega) ⟨0, mk, [], none, none, none, by omega, Nat.zero_le _, by rw [← hR]; rfl, rfl, by simp⟩
    rintro m ρ μ ⟨i, mark, asked, x7, x8, x9, rfl, hal, hRR, rfl, rfl⟩
    simp_arith [entPVs_map]
    by_cases hi : i < es.length
    · have hi' : ((i : Nat) : Int) < (es.length : Nat) := by omega
      obtain ⟨e, he⟩ : ∃ e, es[i]? = some e := ⟨es[i], List.getElem?_eq_getElem hi⟩
      have hmem : e ∈ es := List.mem_of_getElem? he
      have hdrop : es.drop i = e :: es.drop (i + 1) := by
        rw [List.drop_eq_getElem_cons hi]
        have := List.getElem?_eq_getElem hi
        rw [he] at this
        cases this
        rfl
      have a1 : atI (es.map entPV) (i : Int) = some (entPV e) := atI_nat (by rw [List.getElem?_map, he]; rfl)
      have a2 : atI (firsts es f es.length) (i : Int) = some (.int ((f + size (es.take i) : Nat) : Int)) := atI_nat (by unfold firsts; rw [List.getElem?_map, List.getElem?_range hi]; rfl)
      have st := size_take_succ es i e he
      simp_arith [hi', b_Run_ended_1, entPVs_map, a1, a2]
      rw [hdrop] at hRR
      cases e with
      | sub xs =>
        have ep : entPV (.sub xs) = stPV xs := by rw [entPV]
        have dm := deep_mem hmem
        have g1 : Lim xs ∧ GoodL xs := goodL_mem hg hmem
        have sm : size xs ≤ size es := size_mem hmem
        rw [runL_sub] at hRR
        have sx : size1 (.sub xs) = size xs := by show (flat1 _).length = _; rw [flat1]
        have h3 := size_take_le es (i + 1)
        have hal2 : asked.length ≤ size (es.take i) := by rw [Nat.min_eq_left (by omega)] at hal; exact hal
        simp_arith [ep]
        refine ih xs (by omega) g1.2 g1.1.len (by omega) (ht.sub (flat_mem hmem)) (n - 1) (by omega) (f + size (es.take i)) mark (acc ++ intsP asked) (by simp only [List.length_append, List.length_map]; omega) ?_
        simp_arith []
        have hl := runL_len A xs 0 (f + size (es.take i)) mark mark
        refine ⟨es.length - (i + 1), by omega, i + 1, (runL A xs 0 (f + size (es.take i)) mark mark).1, asked ++ (runL A xs 0 (f + size (es.take i)) mark mark).2, _, _, _, rfl, ?_, ?_, rfl, ?_⟩
        · rw [List.length_append]
          have := size_take_le es (i + 1)
          rw [Nat.min_eq_left (by omega), st]
          have : (flat xs).length = size1 (.sub xs) := by show _ = (flat1 _).length; rw [flat1]
          omega
        · rw [hRR, st]
          dsimp only
          rw [List.append_assoc, Nat.add_assoc]
          have : size1 (.sub xs) = size xs := by show (flat1 _).length = _; rw [flat1]
          rw [this]
        · rw [intsP_append, List.append_assoc]
      | rule m t =>
        rw [runL_rule] at hRR
        have ep : entPV (.rule m t) = ruPV (m, t) := by rw [entPV]
        have hm : (m, t) ∈ flat es := flat_mem hmem (m, t) (by rw [flat1]; exact List.mem_singleton.mpr rfl)
        have hk : getK (.inr m) ks vs = some (A m).pv := htell _ hm
        have s1 : size1 (.rule m t) = 1 := by show (flat1 _).length = _; rw [flat1]; rfl
        have al2 : asked.length + 1 ≤ size (es.take (i + 1)) := by
          rw [Nat.min_eq_left (by omega)] at hal
          omega
        have l1 : (acc ++ intsP asked).length < 16777216 := by
          simp only [List.length_append, List.length_map]
          have := size_take_le es (i + 1)
          omega
        simp_arith [ep, tn_rule, sizeL]
        refine ⟨l1, ?_⟩
        simp_arith [ruPV, keyP, hk]
        refine act_for_sp (by omega) (m, t) (A m) ?_
        simp_arith []
        generalize hact : t.get (A m) = act at hRR
        refine marked_sp (by omega) act mark mk (f + size (es.take i)) ?_
        generalize hmk : stepM act mark mk (f + size (es.take i)) = mark' at hRR
        simp_arith [eq_mark]
        have eI : acc ++ intsP asked ++ [PV.int ((f + size (es.take i) : Nat) : Int)] = acc ++ intsP (asked ++ [f + size (es.take i)]) := by
          rw [List.append_assoc, intsP_append]; rfl
        by_cases c1 : act = .die
        · have hs : stopsB act mark' = true := by unfold stopsB; rw [decide_eq_true c1]; rfl
          rw [hs, if_pos rfl] at hRR
          simp_arith [c1, eI]
          subst hRR
          exact q
        · by_cases c2 : act = .done ∧ mark' = .good
          · have hs : stopsB act mark' = true := by unfold stopsB; rw [decide_eq_true c2.1, decide_eq_true c2.2]; simp
            rw [hs, if_pos rfl] at hRR
            simp_arith [c1, c2.1, c2.2, eI]
            subst hRR
            rw [c2.2] at q
            exact q
          · have hs : stopsB act mark' = false := by
              unfold stopsB
              rw [decide_eq_false c1, Bool.false_or, ← Bool.decide_and]
              exact decide_eq_false c2
            rw [hs] at hRR
            simp only [Bool.false_eq_true, if_false] at hRR
            rw [runL_skip] at hRR
            rw [List.drop_drop] at hRR
            have st2 := size_take_add es (i + 1) (jumpOf act)
            have fin : ∀ k : Nat, k = jumpOf act → ∃ m', m' < es.length - i ∧ ∃ (i' : Nat) (mark2 : Mark) (asked2 : List Nat) (x7 x8 x9 : Option EV), m' = es.length - i' ∧ asked2.length ≤ size (es.take (min i' es.length)) ∧ R = ((runL A (es.drop i') 0 (f + size (es.take i')) mark2 mk).1, asked2 ++ (runL A (es.drop i') 0 (f + size (es.take i')) mark2 mk).2) ∧
              ([some (.c 0), some (.v (stPV es)), some (.v (.int f)), some (.v mark'.pv), some (.v mk.pv), some (.v (.int ((i + 1 + k : Nat) : Int))), some (.v (.lst (firsts es f es.length))), some (.v (ruPV (m, t))), some (.v (.int ((f + size (es.take i) : Nat) : Int))), some (.v act.pv)] : P.Env) = [some (.c 0), some (.v (stPV es)), some (.v (.int f)), some (.v mark2.pv), some (.v mk.pv), some (.v (.int i')), some (.v (.lst (firsts es f es.length))), x7, x8, x9] ∧ ([runC (.dct ks vs), .lst (acc ++ intsP (asked ++ [f + size (es.take i)]))] : Sto) = [runC (.dct ks vs), .lst (acc ++ intsP asked2)] := by
              rintro k rfl
              refine ⟨es.length - (i + 1 + jumpOf act), by omega, i + 1 + jumpOf act, mark', asked ++ [f + size (es.take i)], _, _, _, rfl, ?_, ?_, rfl, rfl⟩
              · rw [List.length_append, List.length_singleton]
                obtain ⟨b, hb⟩ : ∃ b, min (i + 1 + jumpOf act) es.length = i + 1 + b := ⟨min (i + 1 + jumpOf act) es.length - (i + 1), by omega⟩
                rw [hb, size_take_add]
                omega
              · rw [hRR, st2, st, s1]
                rw [List.append_assoc]
                rw [show f + size (es.take i) + 1 + size (List.take (jumpOf act) (es.drop (i + 1))) = f + (size (es.take i) + 1 + size (List.take (jumpOf act) (es.drop (i + 1)))) by omega]
                rfl
            have nc2 : ¬ (act = .done ∧ mark' = .good) := c2
            have e1 : ((i : Nat) : Int) + 1 = ((i + 1 + 0 : Nat) : Int) := by omega
            cases act with
            | jump k =>
              simp_arith [eI, show tnP (Actn.jump k).pv = some (.b "int") from rfl]
              simp_arith [show (Actn.jump k).pv = .int k from rfl]
              have := fin k rfl
              rw [show ((i : Nat) : Int) + 1 + (k : Int) = ((i + 1 + k : Nat) : Int) by omega]
              exact this
            | die => exact absurd rfl c1
            | done =>
              have c3 : ¬ mark' = .good := fun z => c2 ⟨rfl, z⟩
              simp_arith [eI, c3, e1, show tnP Actn.done.pv = some (.b "str") from rfl]
              exact fin 0 rfl
            | ok => simp_arith [eI, e1, show tnP Actn.ok.pv = some (.b "str") from rfl]; exact fin 0 rfl
            | bad => simp_arith [eI, e1, show tnP Actn.bad.pv = some (.b "str") from rfl]; exact fin 0 rfl
            | ignore => simp_arith [eI, e1, show tnP Actn.ignore.pv = some (.b "str") from rfl]; exact fin 0 rfl
            | reset => simp_arith [eI, e1, show tnP Actn.reset.pv = some (.b "str") from rfl]; exact fin 0 rfl
    · have hi' : ¬ ((i : Nat) : Int) < (es.length : Nat) := by omega
      simp_arith [hi']
      have : es.drop i = [] := List.drop_eq_nil_iff.mpr (by omega)
      rw [this, runL, List.append_nil] at hRR
      subst hRR
      exact q
end T


set_option Elab.async false
set_option linter.all false
set_option maxRecDepth 100000
set_option maxHeartbeats 4000000
set_option pp.maxSteps 250
namespace T
open PySem PySem.Spec L2 G P M
local macro_rules | `(tactic| simp_arith [$ls,*]) => `(tactic| simp -failIfUnchanged -dsimp only [P.evK_eq, P.optK_some, ↓P.w_ok, ↓P.w_exc, ↓P.w_no, ↓P.w_bind, ↓P.s_nx, ↓P.s_rt, ↓P.s_bk, ↓P.s_ct, ↓P.s_exc, ↓P.s_no, ↓P.s_stm, ↓P.xS_eq, ↓P.s_seqm, ↓P.s_turnm, ↓P.w_fin, ↓P.seqK_nx, ↓P.seqK_rt, ↓P.seqK_bk, ↓P.seqK_ct, ↓P.seqK_exc, ↓P.turnK_nx, ↓P.turnK_ct, ↓P.turnK_bk, ↓P.turnK_rt, ↓P.turnK_exc, ↓P.finK_nx, ↓P.finK_rt, ↓P.finK_exc, ↓P.w_var0, ↓P.upd0, ↓P.w_var1, ↓P.upd1, ↓P.w_var2, ↓P.upd2, ↓P.w_var3, ↓P.upd3, ↓P.w_var4, ↓P.upd4, ↓P.w_var5, ↓P.upd5, ↓P.w_var6, ↓P.upd6, ↓P.w_var7, ↓P.upd7, ↓P.w_var8, ↓P.upd8, ↓P.w_var9, ↓P.upd9, ↓P.w_var10, ↓P.upd10, ↓P.w_var11, ↓P.upd11, ↓P.w_var12, ↓P.upd12, ↓P.w_var13, ↓P.upd13, ↓P.w_var14, ↓P.upd14, ↓P.w_var15, ↓P.upd15, ↓P.w_var16, ↓P.upd16, ↓P.w_var17, ↓P.upd17, ↓P.w_var18, ↓P.upd18, ↓P.w_var19, ↓P.upd19, ↓P.w_var20, ↓P.upd20, ↓P.w_var21, ↓P.upd21, ↓P.w_var22, ↓P.upd22, ↓P.w_var23, ↓P.upd23, ↓P.w_var24, ↓P.upd24, ↓P.w_var25, ↓P.upd25, P.at0, P.ixN0, P.at1, P.ixN1, P.at2, P.ixN2, P.at3, P.ixN3, P.at4, P.ixN4, P.at5, P.ixN5, P.at6, P.ixN6, P.at7, P.ixN7, P.at8, P.ixN8, P.at9, P.ixN9, P.at10, P.ixN10, P.at11, P.ixN11, P.at12, P.ixN12, ↓P.w_cM, ↓P.w_opM, ↓P.w_unM, ↓P.w_blE, ↓P.w_andVM, ↓P.w_orVM, ↓P.w_notVM, ↓P.w_ifM, ↓P.w_chainM, ↓P.w_nilM, ↓P.w_consM, P.sizeL, ↓P.vals0, ↓P.vals1, ↓P.vals2, ↓P.vals3, ↓P.vals4, ↓P.vals5, ↓P.vals6, ↓P.vals7, ↓P.vals8, ↓P.vals9, ↓P.vals10, ↓P.vals11, ↓P.vals12, ↓P.w_tupM, ↓P.w_lstM, ↓P.w_lstC, ↓P.w_cbM, ↓P.w_tstM, ↓P.w_tandM, ↓P.w_torM, ↓P.w_tnotM, ↓P.w_tyesM, ↓P.s_nxS, ↓P.s_bkS, ↓P.s_ctS, ↓P.s_retN, ↓P.s_noS, ↓P.s_seqS, ↓P.s_retS, ↓P.s_dropS, ↓P.s_ifS, ↓P.s_setS, ↓P.s_asgS, ↓P.w_nameG, ↓P.w_nilG, ↓P.w_consG, ↓P.w_tupG1, ↓P.w_tupG2, ↓P.w_tupG3, ↓P.w_tupG4, ↓P.parK_eq, ↓P.par3K_eq, ↓P.s_parS, ↓P.s_par3S, ↓P.augK_eq, ↓P.s_aug0, ↓P.s_aug1, ↓P.s_aug2, ↓P.s_aug3, ↓P.s_aug4, ↓P.s_aug5, ↓P.s_aug6, ↓P.s_aug7, ↓P.s_aug8, ↓P.s_aug9, ↓P.s_aug10, ↓P.s_aug11, ↓P.s_aug12, ↓P.s_aug13, ↓P.s_aug14, ↓P.s_aug15, ↓P.s_loop0, ↓P.s_loop1, ↓P.s_forS, ↓P.cellK_eq, P.lstCK_eq, P.lstK_eq, ↓P.seqVK_l, ↓P.seqVK_f, ↓P.tupVK_eq, P.rng1K_eq, ↓P.tup1K_eq, ↓P.str1K_eq, ↓P.intK_eq, P.strsK_eq, P.v_sub, P.v_lt, P.v_le, P.v_gt, P.v_ge, ↓P.v_mul, ↓P.v_fdiv, ↓P.v_mod, P.v_pow, P.v_addI, P.v_addT, P.v_addL, P.v_eqI, P.v_neI, P.v_eqS, P.v_neS, P.v_isN, P.v_notN, ↓P.v_ixT, ↓P.v_ixL, ↓P.v_ixF, P.ixCK_l, P.ixCK_d, ↓P.v_ixC, ↓P.v_ixD, P.v_lenT, P.v_lenL, P.v_lenF, P.v_int, P.v_min2, P.v_max2, P.v_tupL, ↓P.w_callM, ↓P.w_callWN, ↓P.w_makeM, ↓P.w_makeN, ↓P.w_makeWN, ↓P.w_fldM, ↓P.v_fld, P.insK_eq, ↓P.v_fldC, ↓P.w_frM, P.v_frV, ↓P.v_frC, ↓P.w_bmC, ↓P.w_itSeqM, ↓P.w_itTupM, ↓P.w_rng1M, ↓P.w_subG, ↓P.w_setO, ↓P.v_append, ↓P.v_popAt, ↓P.w_lcN, ↓P.w_sortSetM, ↓P.w_body, ↓P.clsCK_eq, ↓P.clsK_v, ↓P.clsK_c, ↓P.w_callWn, ↓P.w_methM, ↓P.w_methW, ↓P.nonK_eq, ↓P.w_makeW, ↓P.insPK_eq, ↓P.s_setfS, ↓P.v_isi, P.tnE_v, P.tnP_non, P.tnP_bl, P.tnP_int, P.tnP_str, P.tnP_tup, P.tnP_lst, P.tnP_ins, ↓P.w_enumM, ↓P.w_starM, P.seqE_t, P.seqE_l, P.lstE_l, P.lstE_f, ↓P.w_nxM, ↓P.w_nxT, ↓P.w_propN, ↓P.w_gIxM, ↓P.w_slM, ↓P.w_noPM, ↓P.w_partM, P.v_slT, P.v_slL, P.v_frlL, ↓P.w_revM, P.v_all, P.v_any, P.blsOf_map, P.v_in2, P.v_notIn2, P.v_eq2, P.v_ne2, ↓P.w_starC, P.isB_NoneType_int, P.isB_NoneType_bool, P.isB_NoneType_str, P.isB_NoneType_tuple, P.isB_NoneType_list, P.isB_NoneType_dict, P.isB_int_int, P.isB_int_bool, P.isB_int_str, P.isB_int_tuple, P.isB_int_list, P.isB_int_dict, P.isB_bool_int, P.isB_bool_bool, P.isB_bool_str, P.isB_bool_tuple, P.isB_bool_list, P.isB_bool_dict, P.isB_str_int, P.isB_str_bool, P.isB_str_str, P.isB_str_tuple, P.isB_str_list, P.isB_str_dict, P.isB_tuple_int, P.isB_tuple_bool, P.isB_tuple_str, P.isB_tuple_tuple, P.isB_tuple_list, P.isB_tuple_dict, P.isB_list_int, P.isB_list_bool, P.isB_list_str, P.isB_list_tuple, P.isB_list_list, P.isB_list_dict, P.isB_dict_int, P.isB_dict_bool, P.isB_dict_str, P.isB_dict_tuple, P.isB_dict_list, P.isB_dict_dict, P.valsE_nil, P.valsE_v, P.valsE_c, P.valsE_n, ↓P.valK_eq, ↓P.w_scope, P.startE_eq, ↓P.turnI_nx, ↓P.turnI_ct, ↓P.turnI_bk, ↓P.turnI_rt, ↓P.turnI_exc, ↓P.w_lc0, ↓P.w_lc1, P.ofString_inj, P.eqB_int, P.eqB_str, P.wipeR_nil, P.wipeR_cons, P.v_lenS, P.v_lenC, P.strVK_eq, ↓P.w_itStrM, P.dctE_d, P.dctE_t, P.dctE_l, P.dctE_f, P.v_listT, P.v_listL, P.v_listD, P.v_sortD, P.v_sortL, P.v_dictL, P.v_dictD, P.dzK_eq, ↓P.w_dictZip, P.strsOf_mapS, ↓P.w_tupIxM, ↓P.w_ownAdd, ↓P.w_dnew, ↓P.w_disp, P.dispK_1, P.keyP_str, P.v_orD, ↓P.w_sortSetTM, ↓P.w_lc2, P.strsK_app, P.rgK_eq, ↓P.w_rgList, T.fc_acts_Rule, T.fc_asked_rules_Run, T.fc_asks_Rule, T.fc_depth_Stack, T.fc_mark_Run, T.fc_names_Stack, T.fc_parts_Stack, T.fc_steps_Stack, T.fc_told_Run, T.ib_Rule, T.io_Rule_Rule, T.io_Rule_Run, T.io_Rule_Stack, T.iy_Rule_int, T.iy_Rule_bool, T.iy_Rule_str, T.iy_Rule_tuple, T.iy_Rule_list, T.iy_Rule_dict, T.ib_Run, T.io_Run_Rule, T.io_Run_Run, T.io_Run_Stack, T.iy_Run_int, T.iy_Run_bool, T.iy_Run_str, T.iy_Run_tuple, T.iy_Run_list, T.iy_Run_dict, T.ib_Stack, T.io_Stack_Rule, T.io_Stack_Run, T.io_Stack_Stack, T.iy_Stack_int, T.iy_Stack_bool, T.iy_Stack_str, T.iy_Stack_tuple, T.iy_Stack_list, T.iy_Stack_dict, T.pn_Rule_0, T.pv_Rule_0, T.lk_Rule_1_0, T.pn_Rule_1_0, T.pv_Rule_1_0, T.pn_Rule_1, T.pv_Rule_1, T.lk_Rule_2_0, T.pn_Rule_2_0, T.pv_Rule_2_0, T.lk_Rule_2_1, T.pn_Rule_2_1, T.pv_Rule_2_1, T.nc_Rule_action_for_0, T.nc_Rule_action_for_1, T.nc_Rule_action_for_2, T.pn_Run_0, T.pv_Run_0, T.lk_Run_1_0, T.pn_Run_1_0, T.pv_Run_1_0, T.pn_Run_1, T.pv_Run_1, T.lk_Run_2_0, T.pn_Run_2_0, T.pv_Run_2_0, T.lk_Run_2_1, T.pn_Run_2_1, T.pv_Run_2_1, T.pn_Run_2, T.pv_Run_2, T.lk_Run_3_0, T.pn_Run_3_0, T.pv_Run_3_0, T.lk_Run_3_1, T.pn_Run_3_1, T.pv_Run_3_1, T.lk_Run_3_2, T.pn_Run_3_2, T.pv_Run_3_2, T.nc_Run_ended_0, T.nc_Run_ended_1, T.nc_Run_ended_2, T.nc_Run_ended_3, T.nc_Run_outcome_0, T.nc_Run_outcome_1, T.nc_Run_outcome_2, T.nc_Run_outcome_3, T.pn_Stack_0, T.pv_Stack_0, T.lk_Stack_1_0, T.pn_Stack_1_0, T.pv_Stack_1_0, T.pn_Stack_1, T.pv_Stack_1, T.lk_Stack_2_0, T.pn_Stack_2_0, T.pv_Stack_2_0, T.lk_Stack_2_1, T.pn_Stack_2_1, T.pv_Stack_2_1, T.pn_Stack_2, T.pv_Stack_2, T.lk_Stack_3_0, T.pn_Stack_3_0, T.pv_Stack_3_0, T.lk_Stack_3_1, T.pn_Stack_3_1, T.pv_Stack_3_1, T.lk_Stack_3_2, T.pn_Stack_3_2, T.pv_Stack_3_2, T.pn_Stack_3, T.pv_Stack_3, T.lk_Stack_4_0, T.pn_Stack_4_0, T.pv_Stack_4_0, T.lk_Stack_4_1, T.pn_Stack_4_1, T.pv_Stack_4_1, T.lk_Stack_4_2, T.pn_Stack_4_2, T.pv_Stack_4_2, T.lk_Stack_4_3, T.pn_Stack_4_3, T.pv_Stack_4_3, T.nc_Stack___add___0, T.nc_Stack___add___1, T.nc_Stack___add___2, T.nc_Stack___add___3, T.nc_Stack___add___4, T.in_ok, T.in_bad, T.eq_reset, T.eq_die, T.eq_done, T.eq_none, T.eq_good, T.in_letter, T.tn_rule, eq_self, decide_true, decide_false, String.reduceEq, String.reduceNe, Bool.not_eq_eq_eq_not, List.length_map, List.map_cons, List.map_nil, List.replicate_succ, List.replicate_zero, decide_eq_true_eq, decide_eq_false_iff_not, Bool.not_eq_true', Bool.not_eq_false', Bool.not_true, Bool.not_false, if_true, if_false, List.getElem?_cons_zero, List.getElem?_cons_succ, List.set_cons_zero, List.set_cons_succ, List.cons_append, List.nil_append, List.length_cons, List.length_nil, and_true, true_and, ↓reduceIte, reduceCtorEq, Int.reduceLT, Int.reduceLE, Int.reduceEq, Int.reduceNe, Int.reduceAdd, Int.reduceSub, Int.reduceMul, Int.reduceDiv, Int.reduceMod, Int.reducePow, Int.reduceNeg, Int.reduceToNat, P.natAbs10, Nat.reduceAdd, Nat.reduceSub, Nat.reduceMul, Nat.reduceLT, Nat.reduceLeDiff, Nat.reduceEqDiff, Nat.reducePow, or_true, true_or, and_self, not_true_eq_false, not_false_eq_true, Bool.false_eq_true, Bool.true_eq_false, $ls,*])
/-! ### whole runs -/
/-- a stack that a program can have -/
structure StOk (es : List Ent) : Prop where
  lim : Lim es
  good : GoodL es
theorem StOk.len {es : List Ent} (h : StOk es) : es.length ≤ 12 := h.lim.len
theorem StOk.size {es : List Ent} (h : StOk es) : size es ≤ 12 := h.lim.rules
theorem StOk.deep {es : List Ent} (h : StOk es) : deep es ≤ 3 := h.lim.depth
abbrev runD (told : PV) (r : Mark × List Nat) : Sto := [.ins "Run" ["told", "asked_rules", "mark"] [.v told, .c 1, .v r.1.pv], .lst (intsP r.2)]
theorem run_init_sp {n : Nat} (hn : 6 ≤ n) (A : Str → Res) (told : PV) (es : List Ent) (h : StOk es) (ht : Tells told A es) {Q : EV → Sto → Prop} {X : XQ} (q : Q (.v .non) (runD told (run A es))) :
    WpE (call n f_Run_init [.c 0, .v (stPV es), .v told] [.ins "Run" [] []]) Q X := by
  rw [call_at _ (by omega), t_Run_init]
  simp_arith [b_Run_init]
  have e0 : g_NONE = Mark.none.pv := rfl
  rw [e0]
  refine ended_sp A told 3 es h.deep h.good h.len h.size ht (n - 1) (by omega) 0 .none [] (by have := h.size; simp; omega) ?_
  simp_arith []
  exact q
theorem run_outcome_sp {n : Nat} (hn : 1 ≤ n) (told : PV) (r : Mark × List Nat) {Q : EV → Sto → Prop} {X : XQ} (q : Q (.v (.str (outS (decide (r.1 = .good))))) (runD told r)) :
    WpE (call n f_Run_outcome [.c 0] (runD told r)) Q X := by
  rw [call_at _ hn, t_Run_outcome]
  simp_arith [b_Run_outcome]
  by_cases h : r.1 = .good
  · rw [decide_eq_true h] at q; simp_arith [h]; exact q
  · rw [decide_eq_false h] at q; simp_arith [h]; exact q
/-! ### answers -/
theorem getK_map {α : Type} (k : α → Str) (v : α → PV) : ∀ (l : List α) (x : α), (l.map k).Nodup → x ∈ l → getK (.inr (k x)) (l.map fun x => (Sum.inr (k x) : Key)) (l.map v) = some (v x)
  | [], _, _, h => by cases h
  | y :: r, x, hn, h => by
    rw [List.map_cons, List.map_cons, getK]
    rw [List.map_cons, List.nodup_cons] at hn
    rcases List.mem_cons.mp h with rfl | h
    · rw [if_pos rfl]
    · have ne : ¬ ((Sum.inr (k y) : Key) = Sum.inr (k x)) := fun e => hn.1 (by rw [Sum.inr.inj e]; exact List.mem_map.mpr ⟨x, h, rfl⟩)
      rw [if_neg ne]
      exact getK_map k v r x hn.2 h
/-- answers of just these names -/
structure AnsOk (a : Ans) (names : List Str) : Prop where
  nd : (ansN a).Nodup
  mem : ∀ x, x ∈ ansN a ↔ x ∈ names
theorem get_of_mem {a : Ans} {x : Str × Res} (hn : (ansN a).Nodup) (h : x ∈ a) : a.get x.1 = x.2 := by
  induction a with
  | nil => cases h
  | cons y r ih =>
    unfold Ans.get
    rw [List.find?_cons]
    have hn' := List.nodup_cons.mp hn
    rcases List.mem_cons.mp h with rfl | h
    · simp
    · have : (y.1 == x.1) = false := by
        rw [beq_eq_false_iff_ne]
        intro e
        exact hn'.1 (List.mem_map.mpr ⟨x, h, e.symm⟩)
      rw [this]
      exact ih hn'.2 h
theorem getK_ans {a : Ans} (hn : (ansN a).Nodup) {m : Str} (h : m ∈ ansN a) : getK (.inr m) (ansK a) (ansV a) = some (a.get m).pv := by
  obtain ⟨x, hx, rfl⟩ := List.mem_map.mp h
  rw [get_of_mem hn hx]
  exact getK_map (fun (x : Str × Res) => x.1) (fun x => x.2.pv) a x hn hx
theorem AnsOk.tells {a : Ans} {es : List Ent} (h : AnsOk a (namesOf es)) : Tells (ansPV a) a.get es :=
  ⟨ansK a, ansV a, rfl, fun x hx => getK_ans h.nd ((h.mem x.1).mpr (mem_sortU.mpr (List.mem_map.mpr ⟨x, hx, rfl⟩)))⟩
theorem ansK_map (a : Ans) : ansK a = (ansN a).map Sum.inr := by unfold ansK ansN; rw [List.map_map]; rfl
theorem pvK_map (l : List Str) : (l.map (Sum.inr : Str → Key)).map pvK = l.map PV.str := by rw [List.map_map]; rfl
theorem hasK_str {l : List Str} {m : Str} : hasK (.inr m) (l.map Sum.inr) = decide (m ∈ l) := by
  rw [Bool.eq_iff_iff, hasK_iff, decide_eq_true_eq]
  simp
theorem res_in (r : Res) {μ : Sto} : inB (.v r.pv) (.v g_RESULTS) μ = some true := by cases r <;> rfl
end T


set_option Elab.async false
set_option linter.all false
set_option maxRecDepth 100000
set_option maxHeartbeats 4000000
set_option pp.maxSteps 250
namespace T
open PySem PySem.Spec L2 G P M
local macro_rules | `(tactic| simp_arith [$ls,*]) => `(tactic| simp -failIfUnchanged -dsimp only [P.evK_eq, P.optK_some, ↓P.w_ok, ↓P.w_exc, ↓P.w_no, ↓P.w_bind, ↓P.s_nx, ↓P.s_rt, ↓P.s_bk, ↓P.s_ct, ↓P.s_exc, ↓P.s_no, ↓P.s_stm, ↓P.xS_eq, ↓P.s_seqm, ↓P.s_turnm, ↓P.w_fin, ↓P.seqK_nx, ↓P.seqK_rt, ↓P.seqK_bk, ↓P.seqK_ct, ↓P.seqK_exc, ↓P.turnK_nx, ↓P.turnK_ct, ↓P.turnK_bk, ↓P.turnK_rt, ↓P.turnK_exc, ↓P.finK_nx, ↓P.finK_rt, ↓P.finK_exc, ↓P.w_var0, ↓P.upd0, ↓P.w_var1, ↓P.upd1, ↓P.w_var2, ↓P.upd2, ↓P.w_var3, ↓P.upd3, ↓P.w_var4, ↓P.upd4, ↓P.w_var5, ↓P.upd5, ↓P.w_var6, ↓P.upd6, ↓P.w_var7, ↓P.upd7, ↓P.w_var8, ↓P.upd8, ↓P.w_var9, ↓P.upd9, ↓P.w_var10, ↓P.upd10, ↓P.w_var11, ↓P.upd11, ↓P.w_var12, ↓P.upd12, ↓P.w_var13, ↓P.upd13, ↓P.w_var14, ↓P.upd14, ↓P.w_var15, ↓P.upd15, ↓P.w_var16, ↓P.upd16, ↓P.w_var17, ↓P.upd17, ↓P.w_var18, ↓P.upd18, ↓P.w_var19, ↓P.upd19, ↓P.w_var20, ↓P.upd20, ↓P.w_var21, ↓P.upd21, ↓P.w_var22, ↓P.upd22, ↓P.w_var23, ↓P.upd23, ↓P.w_var24, ↓P.upd24, ↓P.w_var25, ↓P.upd25, P.at0, P.ixN0, P.at1, P.ixN1, P.at2, P.ixN2, P.at3, P.ixN3, P.at4, P.ixN4, P.at5, P.ixN5, P.at6, P.ixN6, P.at7, P.ixN7, P.at8, P.ixN8, P.at9, P.ixN9, P.at10, P.ixN10, P.at11, P.ixN11, P.at12, P.ixN12, ↓P.w_cM, ↓P.w_opM, ↓P.w_unM, ↓P.w_blE, ↓P.w_andVM, ↓P.w_orVM, ↓P.w_notVM, ↓P.w_ifM, ↓P.w_chainM, ↓P.w_nilM, ↓P.w_consM, P.sizeL, ↓P.vals0, ↓P.vals1, ↓P.vals2, ↓P.vals3, ↓P.vals4, ↓P.vals5, ↓P.vals6, ↓P.vals7, ↓P.vals8, ↓P.vals9, ↓P.vals10, ↓P.vals11, ↓P.vals12, ↓P.w_tupM, ↓P.w_lstM, ↓P.w_lstC, ↓P.w_cbM, ↓P.w_tstM, ↓P.w_tandM, ↓P.w_torM, ↓P.w_tnotM, ↓P.w_tyesM, ↓P.s_nxS, ↓P.s_bkS, ↓P.s_ctS, ↓P.s_retN, ↓P.s_noS, ↓P.s_seqS, ↓P.s_retS, ↓P.s_dropS, ↓P.s_ifS, ↓P.s_setS, ↓P.s_asgS, ↓P.w_nameG, ↓P.w_nilG, ↓P.w_consG, ↓P.w_tupG1, ↓P.w_tupG2, ↓P.w_tupG3, ↓P.w_tupG4, ↓P.parK_eq, ↓P.par3K_eq, ↓P.s_parS, ↓P.s_par3S, ↓P.augK_eq, ↓P.s_aug0, ↓P.s_aug1, ↓P.s_aug2, ↓P.s_aug3, ↓P.s_aug4, ↓P.s_aug5, ↓P.s_aug6, ↓P.s_aug7, ↓P.s_aug8, ↓P.s_aug9, ↓P.s_aug10, ↓P.s_aug11, ↓P.s_aug12, ↓P.s_aug13, ↓P.s_aug14, ↓P.s_aug15, ↓P.s_loop0, ↓P.s_loop1, ↓P.s_forS, ↓P.cellK_eq, P.lstCK_eq, P.lstK_eq, ↓P.seqVK_l, ↓P.seqVK_f, ↓P.tupVK_eq, P.rng1K_eq, ↓P.tup1K_eq, ↓P.str1K_eq, ↓P.intK_eq, P.strsK_eq, P.v_sub, P.v_lt, P.v_le, P.v_gt, P.v_ge, ↓P.v_mul, ↓P.v_fdiv, ↓P.v_mod, P.v_pow, P.v_addI, P.v_addT, P.v_addL, P.v_eqI, P.v_neI, P.v_eqS, P.v_neS, P.v_isN, P.v_notN, ↓P.v_ixT, ↓P.v_ixL, ↓P.v_ixF, P.ixCK_l, P.ixCK_d, ↓P.v_ixC, ↓P.v_ixD, P.v_lenT, P.v_lenL, P.v_lenF, P.v_int, P.v_min2, P.v_max2, P.v_tupL, ↓P.w_callM, ↓P.w_callWN, ↓P.w_makeM, ↓P.w_makeN, ↓P.w_makeWN, ↓P.w_fldM, ↓P.v_fld, P.insK_eq, ↓P.v_fldC, ↓P.w_frM, P.v_frV, ↓P.v_frC, ↓P.w_bmC, ↓P.w_itSeqM, ↓P.w_itTupM, ↓P.w_rng1M, ↓P.w_subG, ↓P.w_setO, ↓P.v_append, ↓P.v_popAt, ↓P.w_lcN, ↓P.w_sortSetM, ↓P.w_body, ↓P.clsCK_eq, ↓P.clsK_v, ↓P.clsK_c, ↓P.w_callWn, ↓P.w_methM, ↓P.w_methW, ↓P.nonK_eq, ↓P.w_makeW, ↓P.insPK_eq, ↓P.s_setfS, ↓P.v_isi, P.tnE_v, P.tnP_non, P.tnP_bl, P.tnP_int, P.tnP_str, P.tnP_tup, P.tnP_lst, P.tnP_ins, ↓P.w_enumM, ↓P.w_starM, P.seqE_t, P.seqE_l, P.lstE_l, P.lstE_f, ↓P.w_nxM, ↓P.w_nxT, ↓P.w_propN, ↓P.w_gIxM, ↓P.w_slM, ↓P.w_noPM, ↓P.w_partM, P.v_slT, P.v_slL, P.v_frlL, ↓P.w_revM, P.v_all, P.v_any, P.blsOf_map, P.v_in2, P.v_notIn2, P.v_eq2, P.v_ne2, ↓P.w_starC, P.isB_NoneType_int, P.isB_NoneType_bool, P.isB_NoneType_str, P.isB_NoneType_tuple, P.isB_NoneType_list, P.isB_NoneType_dict, P.isB_int_int, P.isB_int_bool, P.isB_int_str, P.isB_int_tuple, P.isB_int_list, P.isB_int_dict, P.isB_bool_int, P.isB_bool_bool, P.isB_bool_str, P.isB_bool_tuple, P.isB_bool_list, P.isB_bool_dict, P.isB_str_int, P.isB_str_bool, P.isB_str_str, P.isB_str_tuple, P.isB_str_list, P.isB_str_dict, P.isB_tuple_int, P.isB_tuple_bool, P.isB_tuple_str, P.isB_tuple_tuple, P.isB_tuple_list, P.isB_tuple_dict, P.isB_list_int, P.isB_list_bool, P.isB_list_str, P.isB_list_tuple, P.isB_list_list, P.isB_list_dict, P.isB_dict_int, P.isB_dict_bool, P.isB_dict_str, P.isB_dict_tuple, P.isB_dict_list, P.isB_dict_dict, P.valsE_nil, P.valsE_v, P.valsE_c, P.valsE_n, ↓P.valK_eq, ↓P.w_scope, P.startE_eq, ↓P.turnI_nx, ↓P.turnI_ct, ↓P.turnI_bk, ↓P.turnI_rt, ↓P.turnI_exc, ↓P.w_lc0, ↓P.w_lc1, P.ofString_inj, P.eqB_int, P.eqB_str, P.wipeR_nil, P.wipeR_cons, P.v_lenS, P.v_lenC, P.strVK_eq, ↓P.w_itStrM, P.dctE_d, P.dctE_t, P.dctE_l, P.dctE_f, P.v_listT, P.v_listL, P.v_listD, P.v_sortD, P.v_sortL, P.v_dictL, P.v_dictD, P.dzK_eq, ↓P.w_dictZip, P.strsOf_mapS, ↓P.w_tupIxM, ↓P.w_ownAdd, ↓P.w_dnew, ↓P.w_disp, P.dispK_1, P.keyP_str, P.v_orD, ↓P.w_sortSetTM, ↓P.w_lc2, P.strsK_app, P.rgK_eq, ↓P.w_rgList, T.fc_acts_Rule, T.fc_asked_rules_Run, T.fc_asks_Rule, T.fc_depth_Stack, T.fc_mark_Run, T.fc_names_Stack, T.fc_parts_Stack, T.fc_steps_Stack, T.fc_told_Run, T.ib_Rule, T.io_Rule_Rule, T.io_Rule_Run, T.io_Rule_Stack, T.iy_Rule_int, T.iy_Rule_bool, T.iy_Rule_str, T.iy_Rule_tuple, T.iy_Rule_list, T.iy_Rule_dict, T.ib_Run, T.io_Run_Rule, T.io_Run_Run, T.io_Run_Stack, T.iy_Run_int, T.iy_Run_bool, T.iy_Run_str, T.iy_Run_tuple, T.iy_Run_list, T.iy_Run_dict, T.ib_Stack, T.io_Stack_Rule, T.io_Stack_Run, T.io_Stack_Stack, T.iy_Stack_int, T.iy_Stack_bool, T.iy_Stack_str, T.iy_Stack_tuple, T.iy_Stack_list, T.iy_Stack_dict, T.pn_Rule_0, T.pv_Rule_0, T.lk_Rule_1_0, T.pn_Rule_1_0, T.pv_Rule_1_0, T.pn_Rule_1, T.pv_Rule_1, T.lk_Rule_2_0, T.pn_Rule_2_0, T.pv_Rule_2_0, T.lk_Rule_2_1, T.pn_Rule_2_1, T.pv_Rule_2_1, T.nc_Rule_action_for_0, T.nc_Rule_action_for_1, T.nc_Rule_action_for_2, T.pn_Run_0, T.pv_Run_0, T.lk_Run_1_0, T.pn_Run_1_0, T.pv_Run_1_0, T.pn_Run_1, T.pv_Run_1, T.lk_Run_2_0, T.pn_Run_2_0, T.pv_Run_2_0, T.lk_Run_2_1, T.pn_Run_2_1, T.pv_Run_2_1, T.pn_Run_2, T.pv_Run_2, T.lk_Run_3_0, T.pn_Run_3_0, T.pv_Run_3_0, T.lk_Run_3_1, T.pn_Run_3_1, T.pv_Run_3_1, T.lk_Run_3_2, T.pn_Run_3_2, T.pv_Run_3_2, T.nc_Run_ended_0, T.nc_Run_ended_1, T.nc_Run_ended_2, T.nc_Run_ended_3, T.nc_Run_outcome_0, T.nc_Run_outcome_1, T.nc_Run_outcome_2, T.nc_Run_outcome_3, T.pn_Stack_0, T.pv_Stack_0, T.lk_Stack_1_0, T.pn_Stack_1_0, T.pv_Stack_1_0, T.pn_Stack_1, T.pv_Stack_1, T.lk_Stack_2_0, T.pn_Stack_2_0, T.pv_Stack_2_0, T.lk_Stack_2_1, T.pn_Stack_2_1, T.pv_Stack_2_1, T.pn_Stack_2, T.pv_Stack_2, T.lk_Stack_3_0, T.pn_Stack_3_0, T.pv_Stack_3_0, T.lk_Stack_3_1, T.pn_Stack_3_1, T.pv_Stack_3_1, T.lk_Stack_3_2, T.pn_Stack_3_2, T.pv_Stack_3_2, T.pn_Stack_3, T.pv_Stack_3, T.lk_Stack_4_0, T.pn_Stack_4_0, T.pv_Stack_4_0, T.lk_Stack_4_1, T.pn_Stack_4_1, T.pv_Stack_4_1, T.lk_Stack_4_2, T.pn_Stack_4_2, T.pv_Stack_4_2, T.lk_Stack_4_3, T.pn_Stack_4_3, T.pv_Stack_4_3, T.nc_Stack___add___0, T.nc_Stack___add___1, T.nc_Stack___add___2, T.nc_Stack___add___3, T.nc_Stack___add___4, T.in_ok, T.in_bad, T.eq_reset, T.eq_die, T.eq_done, T.eq_none, T.eq_good, T.in_letter, T.tn_rule, eq_self, decide_true, decide_false, String.reduceEq, String.reduceNe, Bool.not_eq_eq_eq_not, List.length_map, List.map_cons, List.map_nil, List.replicate_succ, List.replicate_zero, decide_eq_true_eq, decide_eq_false_iff_not, Bool.not_eq_true', Bool.not_eq_false', Bool.not_true, Bool.not_false, if_true, if_false, List.getElem?_cons_zero, List.getElem?_cons_succ, List.set_cons_zero, List.set_cons_succ, List.cons_append, List.nil_append, List.length_cons, List.length_nil, and_true, true_and, ↓reduceIte, reduceCtorEq, Int.reduceLT, Int.reduceLE, Int.reduceEq, Int.reduceNe, Int.reduceAdd, Int.reduceSub, Int.reduceMul, Int.reduceDiv, Int.reduceMod, Int.reducePow, Int.reduceNeg, Int.reduceToNat, P.natAbs10, Nat.reduceAdd, Nat.reduceSub, Nat.reduceMul, Nat.reduceLT, Nat.reduceLeDiff, Nat.reduceEqDiff, Nat.reducePow, or_true, true_or, and_self, not_true_eq_false, not_false_eq_true, Bool.false_eq_true, Bool.true_eq_false, $ls,*])
/-! ### draws -/
def RowOk (m : List PV) (ns : List Int) : Prop := ∃ i s g : Int, 0 ≤ i ∧ m = [.frl (ns.map PV.int), .int i, .int s, .int g]
theorem taken_c (n : Nat) (hn : 1 ≤ n) (row : List PV) (ns : List Int) (h : RowOk row ns) (m : Int) (hm : 0 < m) (hm2 : m < 18446744073709551616) (Q : EV → Sto → Prop) (X : XQ) (q : ∀ d row', 0 ≤ d → d < m → RowOk row' ns → Q (.v (.int d)) [.lst row']) : WpE (call n f_l_taken [.c 0, .v (.int m)] [.lst row]) Q X := by
  obtain ⟨i, s, g, hi, rfl⟩ := h
  rw [call_at _ hn, t_l_taken]
  simp_arith [b_l_taken]
  by_cases hg : 0 < g
  · simp_arith [hg, hm, hm2]
    exact q _ _ (Int.emod_nonneg _ (by omega)) (Int.emod_lt_of_pos _ hm) ⟨i, s, g / m, hi, rfl⟩
  · by_cases hl : i + 1 ≤ ns.length
    · obtain ⟨k, rfl⟩ : ∃ k : Nat, i = k := ⟨i.toNat, by omega⟩
      have hk : k < ns.length := by omega
      have hl' : ¬ ((ns.length : Int) < (k : Int) + 1) := by omega
      have hat : atI (ns.map PV.int) ((k : Int) + 1 - 1) = some (.int ns[k]) := by
        rw [show (k : Int) + 1 - 1 = (k : Int) by omega]
        exact atI_nat (by simp [hk])
      simp_arith [hg, hl', hat]
      by_cases hc : (1000000000000000000 : Int) ≤ ns[k]
      · simp_arith [hc, hm, hm2]
        exact q _ _ (Int.emod_nonneg _ (by omega)) (Int.emod_lt_of_pos _ hm) ⟨k + 1, _, _, by omega, rfl⟩
      · simp_arith [hc, hm, hm2]
        exact q _ _ (Int.emod_nonneg _ (by omega)) (Int.emod_lt_of_pos _ hm) ⟨k + 1, _, _, by omega, rfl⟩
    · have hl' : (ns.length : Int) < i + 1 := by omega
      simp_arith [hg, hl', hm]
      exact q _ _ (Int.emod_nonneg _ (by omega)) (Int.emod_lt_of_pos _ hm) ⟨i + 1, _, _, by omega, rfl⟩
theorem taken_sp {n : Nat} (hn : 1 ≤ n) {row : List PV} {ns : List Int} (h : RowOk row ns) {m : Int} {μ : Sto} {Q : EV → Sto → Prop} {X : XQ} (hm : 0 < m) (hm2 : m < 1000000000)
    (q : ∀ (d : Nat) row', (d : Int) < m → RowOk row' ns → Q (.v (.int d)) (.lst row' :: μ)) : WpE (callS (call n f_l_taken) 2 [.c 0, .v (.int m)] (.lst row :: μ)) Q X := by
  refine call_c (k := 0) (x := .lst row) (ps := [.int m]) rfl rfl rfl rfl ?_
  refine taken_c n hn row ns h m hm (by omega) _ _ fun d row' h0 h1 hr => ?_
  obtain ⟨k, rfl⟩ : ∃ k : Nat, d = k := ⟨d.toNat, by omega⟩
  exact ⟨_, _, _, rfl, rfl, rfl, q k row' h1 hr⟩
theorem at_of_lt {α : Type} {xs : List α} {d : Nat} (h : (d : Int) < (xs.length : Nat)) : ∃ x, atI xs (d : Int) = some x ∧ x ∈ xs := by
  have hk : d < xs.length := by omega
  exact ⟨xs[d], atI_nat (List.getElem?_eq_getElem hk), List.getElem_mem hk⟩
end T


set_option Elab.async false
set_option linter.all false
set_option maxRecDepth 100000
set_option maxHeartbeats 4000000
set_option pp.maxSteps 250
namespace T
open PySem PySem.Spec L2 G P M
local macro_rules | `(tactic| simp_arith [$ls,*]) => `(tactic| simp -failIfUnchanged -dsimp only [P.evK_eq, P.optK_some, ↓P.w_ok, ↓P.w_exc, ↓P.w_no, ↓P.w_bind, ↓P.s_nx, ↓P.s_rt, ↓P.s_bk, ↓P.s_ct, ↓P.s_exc, ↓P.s_no, ↓P.s_stm, ↓P.xS_eq, ↓P.s_seqm, ↓P.s_turnm, ↓P.w_fin, ↓P.seqK_nx, ↓P.seqK_rt, ↓P.seqK_bk, ↓P.seqK_ct, ↓P.seqK_exc, ↓P.turnK_nx, ↓P.turnK_ct, ↓P.turnK_bk, ↓P.turnK_rt, ↓P.turnK_exc, ↓P.finK_nx, ↓P.finK_rt, ↓P.finK_exc, ↓P.w_var0, ↓P.upd0, ↓P.w_var1, ↓P.upd1, ↓P.w_var2, ↓P.upd2, ↓P.w_var3, ↓P.upd3, ↓P.w_var4, ↓P.upd4, ↓P.w_var5, ↓P.upd5, ↓P.w_var6, ↓P.upd6, ↓P.w_var7, ↓P.upd7, ↓P.w_var8, ↓P.upd8, ↓P.w_var9, ↓P.upd9, ↓P.w_var10, ↓P.upd10, ↓P.w_var11, ↓P.upd11, ↓P.w_var12, ↓P.upd12, ↓P.w_var13, ↓P.upd13, ↓P.w_var14, ↓P.upd14, ↓P.w_var15, ↓P.upd15, ↓P.w_var16, ↓P.upd16, ↓P.w_var17, ↓P.upd17, ↓P.w_var18, ↓P.upd18, ↓P.w_var19, ↓P.upd19, ↓P.w_var20, ↓P.upd20, ↓P.w_var21, ↓P.upd21, ↓P.w_var22, ↓P.upd22, ↓P.w_var23, ↓P.upd23, ↓P.w_var24, ↓P.upd24, ↓P.w_var25, ↓P.upd25, P.at0, P.ixN0, P.at1, P.ixN1, P.at2, P.ixN2, P.at3, P.ixN3, P.at4, P.ixN4, P.at5, P.ixN5, P.at6, P.ixN6, P.at7, P.ixN7, P.at8, P.ixN8, P.at9, P.ixN9, P.at10, P.ixN10, P.at11, P.ixN11, P.at12, P.ixN12, ↓P.w_cM, ↓P.w_opM, ↓P.w_unM, ↓P.w_blE, ↓P.w_andVM, ↓P.w_orVM, ↓P.w_notVM, ↓P.w_ifM, ↓P.w_chainM, ↓P.w_nilM, ↓P.w_consM, P.sizeL, ↓P.vals0, ↓P.vals1, ↓P.vals2, ↓P.vals3, ↓P.vals4, ↓P.vals5, ↓P.vals6, ↓P.vals7, ↓P.vals8, ↓P.vals9, ↓P.vals10, ↓P.vals11, ↓P.vals12, ↓P.w_tupM, ↓P.w_lstM, ↓P.w_lstC, ↓P.w_cbM, ↓P.w_tstM, ↓P.w_tandM, ↓P.w_torM, ↓P.w_tnotM, ↓P.w_tyesM, ↓P.s_nxS, ↓P.s_bkS, ↓P.s_ctS, ↓P.s_retN, ↓P.s_noS, ↓P.s_seqS, ↓P.s_retS, ↓P.s_dropS, ↓P.s_ifS, ↓P.s_setS, ↓P.s_asgS, ↓P.w_nameG, ↓P.w_nilG, ↓P.w_consG, ↓P.w_tupG1, ↓P.w_tupG2, ↓P.w_tupG3, ↓P.w_tupG4, ↓P.parK_eq, ↓P.par3K_eq, ↓P.s_parS, ↓P.s_par3S, ↓P.augK_eq, ↓P.s_aug0, ↓P.s_aug1, ↓P.s_aug2, ↓P.s_aug3, ↓P.s_aug4, ↓P.s_aug5, ↓P.s_aug6, ↓P.s_aug7, ↓P.s_aug8, ↓P.s_aug9, ↓P.s_aug10, ↓P.s_aug11, ↓P.s_aug12, ↓P.s_aug13, ↓P.s_aug14, ↓P.s_aug15, ↓P.s_loop0, ↓P.s_loop1, ↓P.s_forS, ↓P.cellK_eq, P.lstCK_eq, P.lstK_eq, ↓P.seqVK_l, ↓P.seqVK_f, ↓P.tupVK_eq, P.rng1K_eq, ↓P.tup1K_eq, ↓P.str1K_eq, ↓P.intK_eq, P.strsK_eq, P.v_sub, P.v_lt, P.v_le, P.v_gt, P.v_ge, ↓P.v_mul, ↓P.v_fdiv, ↓P.v_mod, P.v_pow, P.v_addI, P.v_addT, P.v_addL, P.v_eqI, P.v_neI, P.v_eqS, P.v_neS, P.v_isN, P.v_notN, ↓P.v_ixT, ↓P.v_ixL, ↓P.v_ixF, P.ixCK_l, P.ixCK_d, ↓P.v_ixC, ↓P.v_ixD, P.v_lenT, P.v_lenL, P.v_lenF, P.v_int, P.v_min2, P.v_max2, P.v_tupL, ↓P.w_callM, ↓P.w_callWN, ↓P.w_makeM, ↓P.w_makeN, ↓P.w_makeWN, ↓P.w_fldM, ↓P.v_fld, P.insK_eq, ↓P.v_fldC, ↓P.w_frM, P.v_frV, ↓P.v_frC, ↓P.w_bmC, ↓P.w_itSeqM, ↓P.w_itTupM, ↓P.w_rng1M, ↓P.w_subG, ↓P.w_setO, ↓P.v_append, ↓P.v_popAt, ↓P.w_lcN, ↓P.w_sortSetM, ↓P.w_body, ↓P.clsCK_eq, ↓P.clsK_v, ↓P.clsK_c, ↓P.w_callWn, ↓P.w_methM, ↓P.w_methW, ↓P.nonK_eq, ↓P.w_makeW, ↓P.insPK_eq, ↓P.s_setfS, ↓P.v_isi, P.tnE_v, P.tnP_non, P.tnP_bl, P.tnP_int, P.tnP_str, P.tnP_tup, P.tnP_lst, P.tnP_ins, ↓P.w_enumM, ↓P.w_starM, P.seqE_t, P.seqE_l, P.lstE_l, P.lstE_f, ↓P.w_nxM, ↓P.w_nxT, ↓P.w_propN, ↓P.w_gIxM, ↓P.w_slM, ↓P.w_noPM, ↓P.w_partM, P.v_slT, P.v_slL, P.v_frlL, ↓P.w_revM, P.v_all, P.v_any, P.blsOf_map, P.v_in2, P.v_notIn2, P.v_eq2, P.v_ne2, ↓P.w_starC, P.isB_NoneType_int, P.isB_NoneType_bool, P.isB_NoneType_str, P.isB_NoneType_tuple, P.isB_NoneType_list, P.isB_NoneType_dict, P.isB_int_int, P.isB_int_bool, P.isB_int_str, P.isB_int_tuple, P.isB_int_list, P.isB_int_dict, P.isB_bool_int, P.isB_bool_bool, P.isB_bool_str, P.isB_bool_tuple, P.isB_bool_list, P.isB_bool_dict, P.isB_str_int, P.isB_str_bool, P.isB_str_str, P.isB_str_tuple, P.isB_str_list, P.isB_str_dict, P.isB_tuple_int, P.isB_tuple_bool, P.isB_tuple_str, P.isB_tuple_tuple, P.isB_tuple_list, P.isB_tuple_dict, P.isB_list_int, P.isB_list_bool, P.isB_list_str, P.isB_list_tuple, P.isB_list_list, P.isB_list_dict, P.isB_dict_int, P.isB_dict_bool, P.isB_dict_str, P.isB_dict_tuple, P.isB_dict_list, P.isB_dict_dict, P.valsE_nil, P.valsE_v, P.valsE_c, P.valsE_n, ↓P.valK_eq, ↓P.w_scope, P.startE_eq, ↓P.turnI_nx, ↓P.turnI_ct, ↓P.turnI_bk, ↓P.turnI_rt, ↓P.turnI_exc, ↓P.w_lc0, ↓P.w_lc1, P.ofString_inj, P.eqB_int, P.eqB_str, P.wipeR_nil, P.wipeR_cons, P.v_lenS, P.v_lenC, P.strVK_eq, ↓P.w_itStrM, P.dctE_d, P.dctE_t, P.dctE_l, P.dctE_f, P.v_listT, P.v_listL, P.v_listD, P.v_sortD, P.v_sortL, P.v_dictL, P.v_dictD, P.dzK_eq, ↓P.w_dictZip, P.strsOf_mapS, ↓P.w_tupIxM, ↓P.w_ownAdd, ↓P.w_dnew, ↓P.w_disp, P.dispK_1, P.keyP_str, P.v_orD, ↓P.w_sortSetTM, ↓P.w_lc2, P.strsK_app, P.rgK_eq, ↓P.w_rgList, T.fc_acts_Rule, T.fc_asked_rules_Run, T.fc_asks_Rule, T.fc_depth_Stack, T.fc_mark_Run, T.fc_names_Stack, T.fc_parts_Stack, T.fc_steps_Stack, T.fc_told_Run, T.ib_Rule, T.io_Rule_Rule, T.io_Rule_Run, T.io_Rule_Stack, T.iy_Rule_int, T.iy_Rule_bool, T.iy_Rule_str, T.iy_Rule_tuple, T.iy_Rule_list, T.iy_Rule_dict, T.ib_Run, T.io_Run_Rule, T.io_Run_Run, T.io_Run_Stack, T.iy_Run_int, T.iy_Run_bool, T.iy_Run_str, T.iy_Run_tuple, T.iy_Run_list, T.iy_Run_dict, T.ib_Stack, T.io_Stack_Rule, T.io_Stack_Run, T.io_Stack_Stack, T.iy_Stack_int, T.iy_Stack_bool, T.iy_Stack_str, T.iy_Stack_tuple, T.iy_Stack_list, T.iy_Stack_dict, T.pn_Rule_0, T.pv_Rule_0, T.lk_Rule_1_0, T.pn_Rule_1_0, T.pv_Rule_1_0, T.pn_Rule_1, T.pv_Rule_1, T.lk_Rule_2_0, T.pn_Rule_2_0, T.pv_Rule_2_0, T.lk_Rule_2_1, T.pn_Rule_2_1, T.pv_Rule_2_1, T.nc_Rule_action_for_0, T.nc_Rule_action_for_1, T.nc_Rule_action_for_2, T.pn_Run_0, T.pv_Run_0, T.lk_Run_1_0, T.pn_Run_1_0, T.pv_Run_1_0, T.pn_Run_1, T.pv_Run_1, T.lk_Run_2_0, T.pn_Run_2_0, T.pv_Run_2_0, T.lk_Run_2_1, T.pn_Run_2_1, T.pv_Run_2_1, T.pn_Run_2, T.pv_Run_2, T.lk_Run_3_0, T.pn_Run_3_0, T.pv_Run_3_0, T.lk_Run_3_1, T.pn_Run_3_1, T.pv_Run_3_1, T.lk_Run_3_2, T.pn_Run_3_2, T.pv_Run_3_2, T.nc_Run_ended_0, T.nc_Run_ended_1, T.nc_Run_ended_2, T.nc_Run_ended_3, T.nc_Run_outcome_0, T.nc_Run_outcome_1, T.nc_Run_outcome_2, T.nc_Run_outcome_3, T.pn_Stack_0, T.pv_Stack_0, T.lk_Stack_1_0, T.pn_Stack_1_0, T.pv_Stack_1_0, T.pn_Stack_1, T.pv_Stack_1, T.lk_Stack_2_0, T.pn_Stack_2_0, T.pv_Stack_2_0, T.lk_Stack_2_1, T.pn_Stack_2_1, T.pv_Stack_2_1, T.pn_Stack_2, T.pv_Stack_2, T.lk_Stack_3_0, T.pn_Stack_3_0, T.pv_Stack_3_0, T.lk_Stack_3_1, T.pn_Stack_3_1, T.pv_Stack_3_1, T.lk_Stack_3_2, T.pn_Stack_3_2, T.pv_Stack_3_2, T.pn_Stack_3, T.pv_Stack_3, T.lk_Stack_4_0, T.pn_Stack_4_0, T.pv_Stack_4_0, T.lk_Stack_4_1, T.pn_Stack_4_1, T.pv_Stack_4_1, T.lk_Stack_4_2, T.pn_Stack_4_2, T.pv_Stack_4_2, T.lk_Stack_4_3, T.pn_Stack_4_3, T.pv_Stack_4_3, T.nc_Stack___add___0, T.nc_Stack___add___1, T.nc_Stack___add___2, T.nc_Stack___add___3, T.nc_Stack___add___4, T.in_ok, T.in_bad, T.eq_reset, T.eq_die, T.eq_done, T.eq_none, T.eq_good, T.in_letter, T.tn_rule, eq_self, decide_true, decide_false, String.reduceEq, String.reduceNe, Bool.not_eq_eq_eq_not, List.length_map, List.map_cons, List.map_nil, List.replicate_succ, List.replicate_zero, decide_eq_true_eq, decide_eq_false_iff_not, Bool.not_eq_true', Bool.not_eq_false', Bool.not_true, Bool.not_false, if_true, if_false, List.getElem?_cons_zero, List.getElem?_cons_succ, List.set_cons_zero, List.set_cons_succ, List.cons_append, List.nil_append, List.length_cons, List.length_nil, and_true, true_and, ↓reduceIte, reduceCtorEq, Int.reduceLT, Int.reduceLE, Int.reduceEq, Int.reduceNe, Int.reduceAdd, Int.reduceSub, Int.reduceMul, Int.reduceDiv, Int.reduceMod, Int.reducePow, Int.reduceNeg, Int.reduceToNat, P.natAbs10, Nat.reduceAdd, Nat.reduceSub, Nat.reduceMul, Nat.reduceLT, Nat.reduceLeDiff, Nat.reduceEqDiff, Nat.reducePow, or_true, true_or, and_self, not_true_eq_false, not_false_eq_true, Bool.false_eq_true, Bool.true_eq_false, $ls,*])
theorem need_answers_sp {n : Nat} (hn : 1 ≤ n) (names : List Str) (hl : names.length ≤ 20) (a : Ans) (ha : AnsOk a names) (whole : Bool) {μ : Sto} {Q : EV → Sto → Prop} {X : XQ} (q : Q (.v .non) μ) :
    WpE (callS (call n f_need_answers) 3 [.v (.tup (names.map PV.str)), .v (ansPV a), .v (.bl whole)] μ) Q X := by
  refine call_v (ps := [.tup (names.map PV.str), ansPV a, .bl whole]) rfl rfl ?_
  rw [call_at _ hn, t_need_answers]
  have la : (ansN a).length ≤ 20 := Nat.le_trans (nodup_sub_len ha.nd fun x hx => (ha.mem x).mp hx) hl
  rw [show ansPV a = .dct ((ansN a).map Sum.inr) (ansV a) by rw [← ansK_map]]
  simp_arith [b_need_answers, pvK_map, sizeL]
  refine ⟨by omega, by rw [List.length_append]; omega, ?_⟩
  rw [List.map_map]
  refine loop_list (EV.v ∘ PV.str) (fun r ρ μ => (∀ x ∈ r, x ∈ names) ∧ ∃ x, ρ = [some (.v (.tup (names.map PV.str))), some (.v (.dct ((ansN a).map Sum.inr) (ansV a))), some (.v (.bl whole)), x] ∧ μ = []) ?_ ?_ _ _ _ ⟨?_, _, rfl, rfl⟩
  · rintro m r ρ μ ⟨hr, x, rfl, rfl⟩
    have hm := hr m List.mem_cons_self
    have hma := (ha.mem m).mpr hm
    have hk : getK (.inr m) ((ansN a).map Sum.inr) (ansV a) = some (a.get m).pv := by rw [← ansK_map]; exact getK_ans ha.nd hma
    simp_arith [Function.comp, b_need_answers_1, inB_strs.1, inB_dct, hasK_str, hm, hma, keyP, hk, res_in]
    exact ⟨fun x hx => hr x (List.mem_cons_of_mem _ hx), _, rfl⟩
  · rintro ρ μ ⟨_, x, rfl, rfl⟩
    simp_arith []
    exact ⟨_, rfl, q⟩
  · intro x hx
    rw [mem_sortU, List.mem_append] at hx
    exact hx.elim id fun h => (ha.mem x).mp h
end T


set_option Elab.async false
set_option linter.all false
set_option maxRecDepth 100000
set_option maxHeartbeats 4000000
set_option pp.maxSteps 250
namespace T
open PySem PySem.Spec L2 G P M
local macro_rules | `(tactic| simp_arith [$ls,*]) => `(tactic| simp -failIfUnchanged -dsimp only [P.evK_eq, P.optK_some, ↓P.w_ok, ↓P.w_exc, ↓P.w_no, ↓P.w_bind, ↓P.s_nx, ↓P.s_rt, ↓P.s_bk, ↓P.s_ct, ↓P.s_exc, ↓P.s_no, ↓P.s_stm, ↓P.xS_eq, ↓P.s_seqm, ↓P.s_turnm, ↓P.w_fin, ↓P.seqK_nx, ↓P.seqK_rt, ↓P.seqK_bk, ↓P.seqK_ct, ↓P.seqK_exc, ↓P.turnK_nx, ↓P.turnK_ct, ↓P.turnK_bk, ↓P.turnK_rt, ↓P.turnK_exc, ↓P.finK_nx, ↓P.finK_rt, ↓P.finK_exc, ↓P.w_var0, ↓P.upd0, ↓P.w_var1, ↓P.upd1, ↓P.w_var2, ↓P.upd2, ↓P.w_var3, ↓P.upd3, ↓P.w_var4, ↓P.upd4, ↓P.w_var5, ↓P.upd5, ↓P.w_var6, ↓P.upd6, ↓P.w_var7, ↓P.upd7, ↓P.w_var8, ↓P.upd8, ↓P.w_var9, ↓P.upd9, ↓P.w_var10, ↓P.upd10, ↓P.w_var11, ↓P.upd11, ↓P.w_var12, ↓P.upd12, ↓P.w_var13, ↓P.upd13, ↓P.w_var14, ↓P.upd14, ↓P.w_var15, ↓P.upd15, ↓P.w_var16, ↓P.upd16, ↓P.w_var17, ↓P.upd17, ↓P.w_var18, ↓P.upd18, ↓P.w_var19, ↓P.upd19, ↓P.w_var20, ↓P.upd20, ↓P.w_var21, ↓P.upd21, ↓P.w_var22, ↓P.upd22, ↓P.w_var23, ↓P.upd23, ↓P.w_var24, ↓P.upd24, ↓P.w_var25, ↓P.upd25, P.at0, P.ixN0, P.at1, P.ixN1, P.at2, P.ixN2, P.at3, P.ixN3, P.at4, P.ixN4, P.at5, P.ixN5, P.at6, P.ixN6, P.at7, P.ixN7, P.at8, P.ixN8, P.at9, P.ixN9, P.at10, P.ixN10, P.at11, P.ixN11, P.at12, P.ixN12, ↓P.w_cM, ↓P.w_opM, ↓P.w_unM, ↓P.w_blE, ↓P.w_andVM, ↓P.w_orVM, ↓P.w_notVM, ↓P.w_ifM, ↓P.w_chainM, ↓P.w_nilM, ↓P.w_consM, P.sizeL, ↓P.vals0, ↓P.vals1, ↓P.vals2, ↓P.vals3, ↓P.vals4, ↓P.vals5, ↓P.vals6, ↓P.vals7, ↓P.vals8, ↓P.vals9, ↓P.vals10, ↓P.vals11, ↓P.vals12, ↓P.w_tupM, ↓P.w_lstM, ↓P.w_lstC, ↓P.w_cbM, ↓P.w_tstM, ↓P.w_tandM, ↓P.w_torM, ↓P.w_tnotM, ↓P.w_tyesM, ↓P.s_nxS, ↓P.s_bkS, ↓P.s_ctS, ↓P.s_retN, ↓P.s_noS, ↓P.s_seqS, ↓P.s_retS, ↓P.s_dropS, ↓P.s_ifS, ↓P.s_setS, ↓P.s_asgS, ↓P.w_nameG, ↓P.w_nilG, ↓P.w_consG, ↓P.w_tupG1, ↓P.w_tupG2, ↓P.w_tupG3, ↓P.w_tupG4, ↓P.parK_eq, ↓P.par3K_eq, ↓P.s_parS, ↓P.s_par3S, ↓P.augK_eq, ↓P.s_aug0, ↓P.s_aug1, ↓P.s_aug2, ↓P.s_aug3, ↓P.s_aug4, ↓P.s_aug5, ↓P.s_aug6, ↓P.s_aug7, ↓P.s_aug8, ↓P.s_aug9, ↓P.s_aug10, ↓P.s_aug11, ↓P.s_aug12, ↓P.s_aug13, ↓P.s_aug14, ↓P.s_aug15, ↓P.s_loop0, ↓P.s_loop1, ↓P.s_forS, ↓P.cellK_eq, P.lstCK_eq, P.lstK_eq, ↓P.seqVK_l, ↓P.seqVK_f, ↓P.tupVK_eq, P.rng1K_eq, ↓P.tup1K_eq, ↓P.str1K_eq, ↓P.intK_eq, P.strsK_eq, P.v_sub, P.v_lt, P.v_le, P.v_gt, P.v_ge, ↓P.v_mul, ↓P.v_fdiv, ↓P.v_mod, P.v_pow, P.v_addI, P.v_addT, P.v_addL, P.v_eqI, P.v_neI, P.v_eqS, P.v_neS, P.v_isN, P.v_notN, ↓P.v_ixT, ↓P.v_ixL, ↓P.v_ixF, P.ixCK_l, P.ixCK_d, ↓P.v_ixC, ↓P.v_ixD, P.v_lenT, P.v_lenL, P.v_lenF, P.v_int, P.v_min2, P.v_max2, P.v_tupL, ↓P.w_callM, ↓P.w_callWN, ↓P.w_makeM, ↓P.w_makeN, ↓P.w_makeWN, ↓P.w_fldM, ↓P.v_fld, P.insK_eq, ↓P.v_fldC, ↓P.w_frM, P.v_frV, ↓P.v_frC, ↓P.w_bmC, ↓P.w_itSeqM, ↓P.w_itTupM, ↓P.w_rng1M, ↓P.w_subG, ↓P.w_setO, ↓P.v_append, ↓P.v_popAt, ↓P.w_lcN, ↓P.w_sortSetM, ↓P.w_body, ↓P.clsCK_eq, ↓P.clsK_v, ↓P.clsK_c, ↓P.w_callWn, ↓P.w_methM, ↓P.w_methW, ↓P.nonK_eq, ↓P.w_makeW, ↓P.insPK_eq, ↓P.s_setfS, ↓P.v_isi, P.tnE_v, P.tnP_non, P.tnP_bl, P.tnP_int, P.tnP_str, P.tnP_tup, P.tnP_lst, P.tnP_ins, ↓P.w_enumM, ↓P.w_starM, P.seqE_t, P.seqE_l, P.lstE_l, P.lstE_f, ↓P.w_nxM, ↓P.w_nxT, ↓P.w_propN, ↓P.w_gIxM, ↓P.w_slM, ↓P.w_noPM, ↓P.w_partM, P.v_slT, P.v_slL, P.v_frlL, ↓P.w_revM, P.v_all, P.v_any, P.blsOf_map, P.v_in2, P.v_notIn2, P.v_eq2, P.v_ne2, ↓P.w_starC, P.isB_NoneType_int, P.isB_NoneType_bool, P.isB_NoneType_str, P.isB_NoneType_tuple, P.isB_NoneType_list, P.isB_NoneType_dict, P.isB_int_int, P.isB_int_bool, P.isB_int_str, P.isB_int_tuple, P.isB_int_list, P.isB_int_dict, P.isB_bool_int, P.isB_bool_bool, P.isB_bool_str, P.isB_bool_tuple, P.isB_bool_list, P.isB_bool_dict, P.isB_str_int, P.isB_str_bool, P.isB_str_str, P.isB_str_tuple, P.isB_str_list, P.isB_str_dict, P.isB_tuple_int, P.isB_tuple_bool, P.isB_tuple_str, P.isB_tuple_tuple, P.isB_tuple_list, P.isB_tuple_dict, P.isB_list_int, P.isB_list_bool, P.isB_list_str, P.isB_list_tuple, P.isB_list_list, P.isB_list_dict, P.isB_dict_int, P.isB_dict_bool, P.isB_dict_str, P.isB_dict_tuple, P.isB_dict_list, P.isB_dict_dict, P.valsE_nil, P.valsE_v, P.valsE_c, P.valsE_n, ↓P.valK_eq, ↓P.w_scope, P.startE_eq, ↓P.turnI_nx, ↓P.turnI_ct, ↓P.turnI_bk, ↓P.turnI_rt, ↓P.turnI_exc, ↓P.w_lc0, ↓P.w_lc1, P.ofString_inj, P.eqB_int, P.eqB_str, P.wipeR_nil, P.wipeR_cons, P.v_lenS, P.v_lenC, P.strVK_eq, ↓P.w_itStrM, P.dctE_d, P.dctE_t, P.dctE_l, P.dctE_f, P.v_listT, P.v_listL, P.v_listD, P.v_sortD, P.v_sortL, P.v_dictL, P.v_dictD, P.dzK_eq, ↓P.w_dictZip, P.strsOf_mapS, ↓P.w_tupIxM, ↓P.w_ownAdd, ↓P.w_dnew, ↓P.w_disp, P.dispK_1, P.keyP_str, P.v_orD, ↓P.w_sortSetTM, ↓P.w_lc2, P.strsK_app, P.rgK_eq, ↓P.w_rgList, T.fc_acts_Rule, T.fc_asked_rules_Run, T.fc_asks_Rule, T.fc_depth_Stack, T.fc_mark_Run, T.fc_names_Stack, T.fc_parts_Stack, T.fc_steps_Stack, T.fc_told_Run, T.ib_Rule, T.io_Rule_Rule, T.io_Rule_Run, T.io_Rule_Stack, T.iy_Rule_int, T.iy_Rule_bool, T.iy_Rule_str, T.iy_Rule_tuple, T.iy_Rule_list, T.iy_Rule_dict, T.ib_Run, T.io_Run_Rule, T.io_Run_Run, T.io_Run_Stack, T.iy_Run_int, T.iy_Run_bool, T.iy_Run_str, T.iy_Run_tuple, T.iy_Run_list, T.iy_Run_dict, T.ib_Stack, T.io_Stack_Rule, T.io_Stack_Run, T.io_Stack_Stack, T.iy_Stack_int, T.iy_Stack_bool, T.iy_Stack_str, T.iy_Stack_tuple, T.iy_Stack_list, T.iy_Stack_dict, T.pn_Rule_0, T.pv_Rule_0, T.lk_Rule_1_0, T.pn_Rule_1_0, T.pv_Rule_1_0, T.pn_Rule_1, T.pv_Rule_1, T.lk_Rule_2_0, T.pn_Rule_2_0, T.pv_Rule_2_0, T.lk_Rule_2_1, T.pn_Rule_2_1, T.pv_Rule_2_1, T.nc_Rule_action_for_0, T.nc_Rule_action_for_1, T.nc_Rule_action_for_2, T.pn_Run_0, T.pv_Run_0, T.lk_Run_1_0, T.pn_Run_1_0, T.pv_Run_1_0, T.pn_Run_1, T.pv_Run_1, T.lk_Run_2_0, T.pn_Run_2_0, T.pv_Run_2_0, T.lk_Run_2_1, T.pn_Run_2_1, T.pv_Run_2_1, T.pn_Run_2, T.pv_Run_2, T.lk_Run_3_0, T.pn_Run_3_0, T.pv_Run_3_0, T.lk_Run_3_1, T.pn_Run_3_1, T.pv_Run_3_1, T.lk_Run_3_2, T.pn_Run_3_2, T.pv_Run_3_2, T.nc_Run_ended_0, T.nc_Run_ended_1, T.nc_Run_ended_2, T.nc_Run_ended_3, T.nc_Run_outcome_0, T.nc_Run_outcome_1, T.nc_Run_outcome_2, T.nc_Run_outcome_3, T.pn_Stack_0, T.pv_Stack_0, T.lk_Stack_1_0, T.pn_Stack_1_0, T.pv_Stack_1_0, T.pn_Stack_1, T.pv_Stack_1, T.lk_Stack_2_0, T.pn_Stack_2_0, T.pv_Stack_2_0, T.lk_Stack_2_1, T.pn_Stack_2_1, T.pv_Stack_2_1, T.pn_Stack_2, T.pv_Stack_2, T.lk_Stack_3_0, T.pn_Stack_3_0, T.pv_Stack_3_0, T.lk_Stack_3_1, T.pn_Stack_3_1, T.pv_Stack_3_1, T.lk_Stack_3_2, T.pn_Stack_3_2, T.pv_Stack_3_2, T.pn_Stack_3, T.pv_Stack_3, T.lk_Stack_4_0, T.pn_Stack_4_0, T.pv_Stack_4_0, T.lk_Stack_4_1, T.pn_Stack_4_1, T.pv_Stack_4_1, T.lk_Stack_4_2, T.pn_Stack_4_2, T.pv_Stack_4_2, T.lk_Stack_4_3, T.pn_Stack_4_3, T.pv_Stack_4_3, T.nc_Stack___add___0, T.nc_Stack___add___1, T.nc_Stack___add___2, T.nc_Stack___add___3, T.nc_Stack___add___4, T.in_ok, T.in_bad, T.eq_reset, T.eq_die, T.eq_done, T.eq_none, T.eq_good, T.in_letter, T.tn_rule, eq_self, decide_true, decide_false, String.reduceEq, String.reduceNe, Bool.not_eq_eq_eq_not, List.length_map, List.map_cons, List.map_nil, List.replicate_succ, List.replicate_zero, decide_eq_true_eq, decide_eq_false_iff_not, Bool.not_eq_true', Bool.not_eq_false', Bool.not_true, Bool.not_false, if_true, if_false, List.getElem?_cons_zero, List.getElem?_cons_succ, List.set_cons_zero, List.set_cons_succ, List.cons_append, List.nil_append, List.length_cons, List.length_nil, and_true, true_and, ↓reduceIte, reduceCtorEq, Int.reduceLT, Int.reduceLE, Int.reduceEq, Int.reduceNe, Int.reduceAdd, Int.reduceSub, Int.reduceMul, Int.reduceDiv, Int.reduceMod, Int.reducePow, Int.reduceNeg, Int.reduceToNat, P.natAbs10, Nat.reduceAdd, Nat.reduceSub, Nat.reduceMul, Nat.reduceLT, Nat.reduceLeDiff, Nat.reduceEqDiff, Nat.reducePow, or_true, true_or, and_self, not_true_eq_false, not_false_eq_true, Bool.false_eq_true, Bool.true_eq_false, $ls,*])
theorem asked_sp {n : Nat} (hn : 7 ≤ n) (es : List Ent) (h : StOk es) (a : Ans) (ha : AnsOk a (namesOf es)) {μ : Sto} {Q : EV → Sto → Prop} {X : XQ} (q : Q (.v (.lst (intsP (run a.get es).2))) μ) :
    WpE (callS (call n f_asked) 2 [.v (stPV es), .v (ansPV a)] μ) Q X := by
  refine call_v (ps := [stPV es, ansPV a]) rfl rfl ?_
  rw [call_at _ (by omega), t_asked]
  have hl := h.lim.names
  simp_arith [b_asked]
  refine need_answers_sp (by omega) (namesOf es) (by omega) a ha true ?_
  simp_arith []
  refine run_init_sp (by omega) a.get _ es h ha.tells ?_
  simp_arith []
  exact ⟨_, rfl, q⟩
theorem blame_at (m : Mark) : ∃ s, m.pv = .tup [.str s, blame m] := by cases m <;> exact ⟨_, rfl⟩
theorem blamed_sp {n : Nat} (hn : 7 ≤ n) (es : List Ent) (h : StOk es) (a : Ans) (ha : AnsOk a (namesOf es)) {μ : Sto} {Q : EV → Sto → Prop} {X : XQ} (q : Q (.v (blame (run a.get es).1)) μ) :
    WpE (callS (call n f_blamed) 2 [.v (stPV es), .v (ansPV a)] μ) Q X := by
  refine call_v (ps := [stPV es, ansPV a]) rfl rfl ?_
  rw [call_at _ (by omega), t_blamed]
  have hl := h.lim.names
  simp_arith [b_blamed]
  refine need_answers_sp (by omega) (namesOf es) (by omega) a ha true ?_
  simp_arith []
  refine run_init_sp (by omega) a.get _ es h ha.tells ?_
  obtain ⟨s, e⟩ := blame_at (run a.get es).1
  simp_arith [e]
  exact ⟨_, rfl, q⟩
end T


set_option Elab.async false
set_option linter.all false
set_option maxRecDepth 100000
set_option maxHeartbeats 4000000
set_option pp.maxSteps 250
namespace T
open PySem PySem.Spec L2 G P M
local macro_rules | `(tactic| simp_arith [$ls,*]) => `(tactic| simp -failIfUnchanged -dsimp only [P.evK_eq, P.optK_some, ↓P.w_ok, ↓P.w_exc, ↓P.w_no, ↓P.w_bind, ↓P.s_nx, ↓P.s_rt, ↓P.s_bk, ↓P.s_ct, ↓P.s_exc, ↓P.s_no, ↓P.s_stm, ↓P.xS_eq, ↓P.s_seqm, ↓P.s_turnm, ↓P.w_fin, ↓P.seqK_nx, ↓P.seqK_rt, ↓P.seqK_bk, ↓P.seqK_ct, ↓P.seqK_exc, ↓P.turnK_nx, ↓P.turnK_ct, ↓P.turnK_bk, ↓P.turnK_rt, ↓P.turnK_exc, ↓P.finK_nx, ↓P.finK_rt, ↓P.finK_exc, ↓P.w_var0, ↓P.upd0, ↓P.w_var1, ↓P.upd1, ↓P.w_var2, ↓P.upd2, ↓P.w_var3, ↓P.upd3, ↓P.w_var4, ↓P.upd4, ↓P.w_var5, ↓P.upd5, ↓P.w_var6, ↓P.upd6, ↓P.w_var7, ↓P.upd7, ↓P.w_var8, ↓P.upd8, ↓P.w_var9, ↓P.upd9, ↓P.w_var10, ↓P.upd10, ↓P.w_var11, ↓P.upd11, ↓P.w_var12, ↓P.upd12, ↓P.w_var13, ↓P.upd13, ↓P.w_var14, ↓P.upd14, ↓P.w_var15, ↓P.upd15, ↓P.w_var16, ↓P.upd16, ↓P.w_var17, ↓P.upd17, ↓P.w_var18, ↓P.upd18, ↓P.w_var19, ↓P.upd19, ↓P.w_var20, ↓P.upd20, ↓P.w_var21, ↓P.upd21, ↓P.w_var22, ↓P.upd22, ↓P.w_var23, ↓P.upd23, ↓P.w_var24, ↓P.upd24, ↓P.w_var25, ↓P.upd25, P.at0, P.ixN0, P.at1, P.ixN1, P.at2, P.ixN2, P.at3, P.ixN3, P.at4, P.ixN4, P.at5, P.ixN5, P.at6, P.ixN6, P.at7, P.ixN7, P.at8, P.ixN8, P.at9, P.ixN9, P.at10, P.ixN10, P.at11, P.ixN11, P.at12, P.ixN12, ↓P.w_cM, ↓P.w_opM, ↓P.w_unM, ↓P.w_blE, ↓P.w_andVM, ↓P.w_orVM, ↓P.w_notVM, ↓P.w_ifM, ↓P.w_chainM, ↓P.w_nilM, ↓P.w_consM, P.sizeL, ↓P.vals0, ↓P.vals1, ↓P.vals2, ↓P.vals3, ↓P.vals4, ↓P.vals5, ↓P.vals6, ↓P.vals7, ↓P.vals8, ↓P.vals9, ↓P.vals10, ↓P.vals11, ↓P.vals12, ↓P.w_tupM, ↓P.w_lstM, ↓P.w_lstC, ↓P.w_cbM, ↓P.w_tstM, ↓P.w_tandM, ↓P.w_torM, ↓P.w_tnotM, ↓P.w_tyesM, ↓P.s_nxS, ↓P.s_bkS, ↓P.s_ctS, ↓P.s_retN, ↓P.s_noS, ↓P.s_seqS, ↓P.s_retS, ↓P.s_dropS, ↓P.s_ifS, ↓P.s_setS, ↓P.s_asgS, ↓P.w_nameG, ↓P.w_nilG, ↓P.w_consG, ↓P.w_tupG1, ↓P.w_tupG2, ↓P.w_tupG3, ↓P.w_tupG4, ↓P.parK_eq, ↓P.par3K_eq, ↓P.s_parS, ↓P.s_par3S, ↓P.augK_eq, ↓P.s_aug0, ↓P.s_aug1, ↓P.s_aug2, ↓P.s_aug3, ↓P.s_aug4, ↓P.s_aug5, ↓P.s_aug6, ↓P.s_aug7, ↓P.s_aug8, ↓P.s_aug9, ↓P.s_aug10, ↓P.s_aug11, ↓P.s_aug12, ↓P.s_aug13, ↓P.s_aug14, ↓P.s_aug15, ↓P.s_loop0, ↓P.s_loop1, ↓P.s_forS, ↓P.cellK_eq, P.lstCK_eq, P.lstK_eq, ↓P.seqVK_l, ↓P.seqVK_f, ↓P.tupVK_eq, P.rng1K_eq, ↓P.tup1K_eq, ↓P.str1K_eq, ↓P.intK_eq, P.strsK_eq, P.v_sub, P.v_lt, P.v_le, P.v_gt, P.v_ge, ↓P.v_mul, ↓P.v_fdiv, ↓P.v_mod, P.v_pow, P.v_addI, P.v_addT, P.v_addL, P.v_eqI, P.v_neI, P.v_eqS, P.v_neS, P.v_isN, P.v_notN, ↓P.v_ixT, ↓P.v_ixL, ↓P.v_ixF, P.ixCK_l, P.ixCK_d, ↓P.v_ixC, ↓P.v_ixD, P.v_lenT, P.v_lenL, P.v_lenF, P.v_int, P.v_min2, P.v_max2, P.v_tupL, ↓P.w_callM, ↓P.w_callWN, ↓P.w_makeM, ↓P.w_makeN, ↓P.w_makeWN, ↓P.w_fldM, ↓P.v_fld, P.insK_eq, ↓P.v_fldC, ↓P.w_frM, P.v_frV, ↓P.v_frC, ↓P.w_bmC, ↓P.w_itSeqM, ↓P.w_itTupM, ↓P.w_rng1M, ↓P.w_subG, ↓P.w_setO, ↓P.v_append, ↓P.v_popAt, ↓P.w_lcN, ↓P.w_sortSetM, ↓P.w_body, ↓P.clsCK_eq, ↓P.clsK_v, ↓P.clsK_c, ↓P.w_callWn, ↓P.w_methM, ↓P.w_methW, ↓P.nonK_eq, ↓P.w_makeW, ↓P.insPK_eq, ↓P.s_setfS, ↓P.v_isi, P.tnE_v, P.tnP_non, P.tnP_bl, P.tnP_int, P.tnP_str, P.tnP_tup, P.tnP_lst, P.tnP_ins, ↓P.w_enumM, ↓P.w_starM, P.seqE_t, P.seqE_l, P.lstE_l, P.lstE_f, ↓P.w_nxM, ↓P.w_nxT, ↓P.w_propN, ↓P.w_gIxM, ↓P.w_slM, ↓P.w_noPM, ↓P.w_partM, P.v_slT, P.v_slL, P.v_frlL, ↓P.w_revM, P.v_all, P.v_any, P.blsOf_map, P.v_in2, P.v_notIn2, P.v_eq2, P.v_ne2, ↓P.w_starC, P.isB_NoneType_int, P.isB_NoneType_bool, P.isB_NoneType_str, P.isB_NoneType_tuple, P.isB_NoneType_list, P.isB_NoneType_dict, P.isB_int_int, P.isB_int_bool, P.isB_int_str, P.isB_int_tuple, P.isB_int_list, P.isB_int_dict, P.isB_bool_int, P.isB_bool_bool, P.isB_bool_str, P.isB_bool_tuple, P.isB_bool_list, P.isB_bool_dict, P.isB_str_int, P.isB_str_bool, P.isB_str_str, P.isB_str_tuple, P.isB_str_list, P.isB_str_dict, P.isB_tuple_int, P.isB_tuple_bool, P.isB_tuple_str, P.isB_tuple_tuple, P.isB_tuple_list, P.isB_tuple_dict, P.isB_list_int, P.isB_list_bool, P.isB_list_str, P.isB_list_tuple, P.isB_list_list, P.isB_list_dict, P.isB_dict_int, P.isB_dict_bool, P.isB_dict_str, P.isB_dict_tuple, P.isB_dict_list, P.isB_dict_dict, P.valsE_nil, P.valsE_v, P.valsE_c, P.valsE_n, ↓P.valK_eq, ↓P.w_scope, P.startE_eq, ↓P.turnI_nx, ↓P.turnI_ct, ↓P.turnI_bk, ↓P.turnI_rt, ↓P.turnI_exc, ↓P.w_lc0, ↓P.w_lc1, P.ofString_inj, P.eqB_int, P.eqB_str, P.wipeR_nil, P.wipeR_cons, P.v_lenS, P.v_lenC, P.strVK_eq, ↓P.w_itStrM, P.dctE_d, P.dctE_t, P.dctE_l, P.dctE_f, P.v_listT, P.v_listL, P.v_listD, P.v_sortD, P.v_sortL, P.v_dictL, P.v_dictD, P.dzK_eq, ↓P.w_dictZip, P.strsOf_mapS, ↓P.w_tupIxM, ↓P.w_ownAdd, ↓P.w_dnew, ↓P.w_disp, P.dispK_1, P.keyP_str, P.v_orD, ↓P.w_sortSetTM, ↓P.w_lc2, P.strsK_app, P.rgK_eq, ↓P.w_rgList, T.fc_acts_Rule, T.fc_asked_rules_Run, T.fc_asks_Rule, T.fc_depth_Stack, T.fc_mark_Run, T.fc_names_Stack, T.fc_parts_Stack, T.fc_steps_Stack, T.fc_told_Run, T.ib_Rule, T.io_Rule_Rule, T.io_Rule_Run, T.io_Rule_Stack, T.iy_Rule_int, T.iy_Rule_bool, T.iy_Rule_str, T.iy_Rule_tuple, T.iy_Rule_list, T.iy_Rule_dict, T.ib_Run, T.io_Run_Rule, T.io_Run_Run, T.io_Run_Stack, T.iy_Run_int, T.iy_Run_bool, T.iy_Run_str, T.iy_Run_tuple, T.iy_Run_list, T.iy_Run_dict, T.ib_Stack, T.io_Stack_Rule, T.io_Stack_Run, T.io_Stack_Stack, T.iy_Stack_int, T.iy_Stack_bool, T.iy_Stack_str, T.iy_Stack_tuple, T.iy_Stack_list, T.iy_Stack_dict, T.pn_Rule_0, T.pv_Rule_0, T.lk_Rule_1_0, T.pn_Rule_1_0, T.pv_Rule_1_0, T.pn_Rule_1, T.pv_Rule_1, T.lk_Rule_2_0, T.pn_Rule_2_0, T.pv_Rule_2_0, T.lk_Rule_2_1, T.pn_Rule_2_1, T.pv_Rule_2_1, T.nc_Rule_action_for_0, T.nc_Rule_action_for_1, T.nc_Rule_action_for_2, T.pn_Run_0, T.pv_Run_0, T.lk_Run_1_0, T.pn_Run_1_0, T.pv_Run_1_0, T.pn_Run_1, T.pv_Run_1, T.lk_Run_2_0, T.pn_Run_2_0, T.pv_Run_2_0, T.lk_Run_2_1, T.pn_Run_2_1, T.pv_Run_2_1, T.pn_Run_2, T.pv_Run_2, T.lk_Run_3_0, T.pn_Run_3_0, T.pv_Run_3_0, T.lk_Run_3_1, T.pn_Run_3_1, T.pv_Run_3_1, T.lk_Run_3_2, T.pn_Run_3_2, T.pv_Run_3_2, T.nc_Run_ended_0, T.nc_Run_ended_1, T.nc_Run_ended_2, T.nc_Run_ended_3, T.nc_Run_outcome_0, T.nc_Run_outcome_1, T.nc_Run_outcome_2, T.nc_Run_outcome_3, T.pn_Stack_0, T.pv_Stack_0, T.lk_Stack_1_0, T.pn_Stack_1_0, T.pv_Stack_1_0, T.pn_Stack_1, T.pv_Stack_1, T.lk_Stack_2_0, T.pn_Stack_2_0, T.pv_Stack_2_0, T.lk_Stack_2_1, T.pn_Stack_2_1, T.pv_Stack_2_1, T.pn_Stack_2, T.pv_Stack_2, T.lk_Stack_3_0, T.pn_Stack_3_0, T.pv_Stack_3_0, T.lk_Stack_3_1, T.pn_Stack_3_1, T.pv_Stack_3_1, T.lk_Stack_3_2, T.pn_Stack_3_2, T.pv_Stack_3_2, T.pn_Stack_3, T.pv_Stack_3, T.lk_Stack_4_0, T.pn_Stack_4_0, T.pv_Stack_4_0, T.lk_Stack_4_1, T.pn_Stack_4_1, T.pv_Stack_4_1, T.lk_Stack_4_2, T.pn_Stack_4_2, T.pv_Stack_4_2, T.lk_Stack_4_3, T.pn_Stack_4_3, T.pv_Stack_4_3, T.nc_Stack___add___0, T.nc_Stack___add___1, T.nc_Stack___add___2, T.nc_Stack___add___3, T.nc_Stack___add___4, T.in_ok, T.in_bad, T.eq_reset, T.eq_die, T.eq_done, T.eq_none, T.eq_good, T.in_letter, T.tn_rule, eq_self, decide_true, decide_false, String.reduceEq, String.reduceNe, Bool.not_eq_eq_eq_not, List.length_map, List.map_cons, List.map_nil, List.replicate_succ, List.replicate_zero, decide_eq_true_eq, decide_eq_false_iff_not, Bool.not_eq_true', Bool.not_eq_false', Bool.not_true, Bool.not_false, if_true, if_false, List.getElem?_cons_zero, List.getElem?_cons_succ, List.set_cons_zero, List.set_cons_succ, List.cons_append, List.nil_append, List.length_cons, List.length_nil, and_true, true_and, ↓reduceIte, reduceCtorEq, Int.reduceLT, Int.reduceLE, Int.reduceEq, Int.reduceNe, Int.reduceAdd, Int.reduceSub, Int.reduceMul, Int.reduceDiv, Int.reduceMod, Int.reducePow, Int.reduceNeg, Int.reduceToNat, P.natAbs10, Nat.reduceAdd, Nat.reduceSub, Nat.reduceMul, Nat.reduceLT, Nat.reduceLeDiff, Nat.reduceEqDiff, Nat.reducePow, or_true, true_or, and_self, not_true_eq_false, not_false_eq_true, Bool.false_eq_true, Bool.true_eq_false, $ls,*])
theorem pick_sp {n : Nat} (hn : 2 ≤ n) {row xs : List PV} {ns : List Int} (h : RowOk row ns) {μ : Sto} {Q : EV → Sto → Prop} {X : XQ} (h0 : 0 < xs.length) (h1 : xs.length < 1000000000)
    (q : ∀ x row', x ∈ xs → RowOk row' ns → Q (.v x) (.lst row' :: μ)) : WpE (callS (call n f_l_pick) 2 [.c 0, .v (.lst xs)] (.lst row :: μ)) Q X := by
  refine call_c (k := 0) (x := .lst row) (ps := [.lst xs]) rfl rfl rfl rfl ?_
  rw [call_at _ (by omega), t_l_pick]
  simp_arith [b_l_pick]
  refine taken_sp (by omega) h (by omega) (by omega) fun d row' h1 hr => ?_
  obtain ⟨x, hx, hm⟩ := at_of_lt h1
  simp_arith [hx]
  exact ⟨_, _, _, rfl, rfl, rfl, q x row' hm hr⟩
def acts9 : List Actn := [.ok, .bad, .die, .done, .ignore, .reset, .jump 1, .jump 2, .jump 9]
theorem acts9_Ok : ∀ a ∈ acts9, a.Ok := by simp [acts9, Actn.Ok]
def words4 : List Tb := [⟨.ok, .bad, .ignore, .bad⟩, ⟨.ok, .die, .ignore, .die⟩, ⟨.done, .ignore, .ignore, .ignore⟩, ⟨.ok, .ignore, .ignore, .ignore⟩]
theorem words4_Ok : ∀ t ∈ words4, t.Ok := by simp [words4, Tb.Ok, Actn.Ok]
theorem at9 {d : Nat} (h : (d : Int) < 9) : ∃ a : Actn, atI [PV.str "ok", .str "bad", .str "die", .str "done", .str "ignore", .str "reset", .int 1, .int 2, .int 9] (d : Int) = some a.pv ∧ a.Ok := by
  have e : ([PV.str "ok", .str "bad", .str "die", .str "done", .str "ignore", .str "reset", .int 1, .int 2, .int 9] : List PV) = acts9.map Actn.pv := rfl
  have hk : d < acts9.length := by have : acts9.length = 9 := rfl; omega
  exact ⟨acts9[d], by rw [e]; exact atI_nat (by rw [List.getElem?_map, List.getElem?_eq_getElem hk]; rfl), acts9_Ok _ (List.getElem_mem hk)⟩
theorem table_sp {n : Nat} (hn : 2 ≤ n) {row : List PV} {ns : List Int} (h : RowOk row ns) {μ : Sto} {Q : EV → Sto → Prop} {X : XQ}
    (q : ∀ (t : Tb) row', t.Ok → RowOk row' ns → Q (.v t.pv) (.lst row' :: μ)) : WpE (callS (call n f_l_table) 2 [.c 0, .v (.bl false)] (.lst row :: μ)) Q X := by
  refine call_c (k := 0) (x := .lst row) (ps := [.bl false]) rfl rfl rfl rfl ?_
  rw [call_at _ (by omega), t_l_table]
  simp_arith [b_l_table, sizeL]
  refine taken_sp (by omega) h (by omega) (by omega) fun d0 r0 h0 hr0 => ?_
  simp_arith []
  by_cases c : ((d0 : Nat) : Int) = 0
  · simp_arith [c]
    refine taken_sp (by omega) hr0 (by omega) (by omega) fun d1 r1 h1 hr1 => ?_
    have e : ([PV.tup [.str "ok", .str "bad", .str "ignore", .str "bad"], .tup [.str "ok", .str "die", .str "ignore", .str "die"], .tup [.str "done", .str "ignore", .str "ignore", .str "ignore"], .tup [.str "ok", .str "ignore", .str "ignore", .str "ignore"]] : List PV) = words4.map Tb.pv := rfl
    obtain ⟨x, hx, hm⟩ := at_of_lt (xs := words4) h1
    have hx' : atI (words4.map Tb.pv) (d1 : Int) = some x.pv := by
      have : words4[d1]? = some x := by
        have hk : d1 < words4.length := by have : words4.length = 4 := rfl; omega
        have := atI_nat (List.getElem?_eq_getElem hk)
        rw [this] at hx
        rw [List.getElem?_eq_getElem hk]; exact hx
      exact atI_nat (by rw [List.getElem?_map, this]; rfl)
    simp_arith [e, hx']
    exact ⟨_, _, _, rfl, rfl, rfl, q x r1 (words4_Ok x hm) hr1⟩
  · have e4 : P.intsFrom 0 4 = [.v (.int 0), .v (.int 1), .v (.int 2), .v (.int 3)] := rfl
    simp_arith [c, e4]
    refine taken_sp (by omega) hr0 (by omega) (by omega) fun d1 r1 h1 hr1 => ?_
    obtain ⟨a1, k1, o1⟩ := at9 h1
    simp_arith [k1]
    refine taken_sp (by omega) hr1 (by omega) (by omega) fun d2 r2 h2 hr2 => ?_
    obtain ⟨a2, k2, o2⟩ := at9 h2
    simp_arith [k2]
    refine taken_sp (by omega) hr2 (by omega) (by omega) fun d3 r3 h3 hr3 => ?_
    obtain ⟨a3, k3, o3⟩ := at9 h3
    simp_arith [k3]
    refine taken_sp (by omega) hr3 (by omega) (by omega) fun d4 r4 h4 hr4 => ?_
    obtain ⟨a4, k4, o4⟩ := at9 h4
    simp_arith [k4]
    exact ⟨_, _, _, rfl, rfl, rfl, q ⟨a1, a2, a3, a4⟩ r4 ⟨o1, o2, o3, o4⟩ hr4⟩
/-! ### plain stacks -/
mutual
def plPV : Ent → PV
  | .rule m t => .tup [.str m, t.pv]
  | .sub es => .lst (plPVs es)
def plPVs : List Ent → List PV
  | [] => []
  | e :: r => plPV e :: plPVs r
end
theorem plPVs_map (es : List Ent) : plPVs es = es.map plPV := by
  induction es with
  | nil => rfl
  | cons e r ih => unfold plPVs; rw [ih]; rfl
abbrev ruT (x : Str × Tb) : PV := .tup [.str x.1, x.2.pv]
theorem tn_pl (e : Ent) : tnP (plPV e) = some (.b (match e with | .rule _ _ => "tuple" | .sub _ => "list")) := by cases e <;> (unfold plPV; rfl)
theorem rules_sp : ∀ (d : Nat) (es : List Ent), deep es ≤ d → size es ≤ 100 → ∀ {n : Nat}, d ≤ n → ∀ {μ : Sto} {Q : EV → Sto → Prop} {X : XQ}, Q (.v (.lst ((flat es).map ruT))) μ →
    WpE (callS (call n f_l_rules) 1 [.v (.lst (es.map plPV))] μ) Q X := by
  intro d
  induction d with
  | zero => intro es h; have := deep_pos es; omega
  | succ d ih =>
    intro es hd hs n hn μ Q X q
    refine call_v (ps := [.lst (es.map plPV)]) rfl rfl ?_
    rw [call_at _ (by omega), t_l_rules]
    simp_arith [b_l_rules]
    rw [List.map_map]
    refine loop_list (EV.v ∘ plPV) (fun r ρ μ => (∀ e ∈ r, e ∈ es) ∧ ∃ l x, flat es = l ++ flat r ∧ ρ = [some (.v (.lst (es.map plPV))), some (.v (.lst (l.map ruT))), x] ∧ μ = []) ?_ ?_ _ _ _ ⟨fun e he => he, [], none, rfl, rfl, rfl⟩
    · rintro e r ρ μ ⟨hr, l, x, hl, rfl, rfl⟩
      have hm := hr e List.mem_cons_self
      have hsz := size_mem hm
      have ll : l.length + (flat1 e).length ≤ 100 := by
        have e1 : (flat es).length = size es := rfl
        rw [hl, flat_cons, List.length_append, List.length_append] at e1
        omega
      have fin : (∀ e' ∈ r, e' ∈ es) ∧ ∃ l' x', flat es = l' ++ flat r ∧ ([some (.v (.lst (es.map plPV))), some (.v (.lst (l.map ruT ++ (flat1 e).map ruT))), some (.v (plPV e))] : P.Env) = [some (.v (.lst (es.map plPV))), some (.v (.lst (l'.map ruT))), x'] :=
        ⟨fun z hz => hr z (List.mem_cons_of_mem _ hz), l ++ flat1 e, _, by rw [hl, flat_cons, List.append_assoc], by rw [List.map_append]⟩
      cases e with
      | rule m t =>
        rw [flat1] at fin ll
        simp_arith [Function.comp, b_l_rules_1, tn_pl, sizeL]
        refine ⟨by simpa using (show l.length + 1 ≤ 16777216 by simp at ll; omega), ?_⟩
        rw [plPV] at fin ⊢
        exact fin
      | sub xs =>
        have dm := deep_mem hm
        rw [flat1] at fin ll
        simp_arith [Function.comp, b_l_rules_1, tn_pl]
        have ep : plPV (.sub xs) = .lst (xs.map plPV) := by rw [plPV, plPVs_map]
        rw [ep] at fin ⊢
        have hsx : size1 (.sub xs) = size xs := by show (flat1 _).length = _; rw [flat1]
        refine ih xs (by omega) (by omega) (by omega) ?_
        simp_arith [sizeL]
        exact ⟨by omega, fin⟩
    · rintro ρ μ ⟨_, l, x, hl, rfl, rfl⟩
      simp_arith []
      rw [show flat [] = ([] : List (Str × Tb)) from rfl, List.append_nil] at hl
      rw [hl] at q
      exact ⟨_, rfl, q⟩
end T


set_option Elab.async false
set_option linter.all false
set_option maxRecDepth 100000
set_option maxHeartbeats 4000000
set_option pp.maxSteps 250
namespace T
open PySem PySem.Spec L2 G P M
local macro_rules | `(tactic| simp_arith [$ls,*]) => `(tactic| simp -failIfUnchanged -dsimp only [P.evK_eq, P.optK_some, ↓P.w_ok, ↓P.w_exc, ↓P.w_no, ↓P.w_bind, ↓P.s_nx, ↓P.s_rt, ↓P.s_bk, ↓P.s_ct, ↓P.s_exc, ↓P.s_no, ↓P.s_stm, ↓P.xS_eq, ↓P.s_seqm, ↓P.s_turnm, ↓P.w_fin, ↓P.seqK_nx, ↓P.seqK_rt, ↓P.seqK_bk, ↓P.seqK_ct, ↓P.seqK_exc, ↓P.turnK_nx, ↓P.turnK_ct, ↓P.turnK_bk, ↓P.turnK_rt, ↓P.turnK_exc, ↓P.finK_nx, ↓P.finK_rt, ↓P.finK_exc, ↓P.w_var0, ↓P.upd0, ↓P.w_var1, ↓P.upd1, ↓P.w_var2, ↓P.upd2, ↓P.w_var3, ↓P.upd3, ↓P.w_var4, ↓P.upd4, ↓P.w_var5, ↓P.upd5, ↓P.w_var6, ↓P.upd6, ↓P.w_var7, ↓P.upd7, ↓P.w_var8, ↓P.upd8, ↓P.w_var9, ↓P.upd9, ↓P.w_var10, ↓P.upd10, ↓P.w_var11, ↓P.upd11, ↓P.w_var12, ↓P.upd12, ↓P.w_var13, ↓P.upd13, ↓P.w_var14, ↓P.upd14, ↓P.w_var15, ↓P.upd15, ↓P.w_var16, ↓P.upd16, ↓P.w_var17, ↓P.upd17, ↓P.w_var18, ↓P.upd18, ↓P.w_var19, ↓P.upd19, ↓P.w_var20, ↓P.upd20, ↓P.w_var21, ↓P.upd21, ↓P.w_var22, ↓P.upd22, ↓P.w_var23, ↓P.upd23, ↓P.w_var24, ↓P.upd24, ↓P.w_var25, ↓P.upd25, P.at0, P.ixN0, P.at1, P.ixN1, P.at2, P.ixN2, P.at3, P.ixN3, P.at4, P.ixN4, P.at5, P.ixN5, P.at6, P.ixN6, P.at7, P.ixN7, P.at8, P.ixN8, P.at9, P.ixN9, P.at10, P.ixN10, P.at11, P.ixN11, P.at12, P.ixN12, ↓P.w_cM, ↓P.w_opM, ↓P.w_unM, ↓P.w_blE, ↓P.w_andVM, ↓P.w_orVM, ↓P.w_notVM, ↓P.w_ifM, ↓P.w_chainM, ↓P.w_nilM, ↓P.w_consM, P.sizeL, ↓P.vals0, ↓P.vals1, ↓P.vals2, ↓P.vals3, ↓P.vals4, ↓P.vals5, ↓P.vals6, ↓P.vals7, ↓P.vals8, ↓P.vals9, ↓P.vals10, ↓P.vals11, ↓P.vals12, ↓P.w_tupM, ↓P.w_lstM, ↓P.w_lstC, ↓P.w_cbM, ↓P.w_tstM, ↓P.w_tandM, ↓P.w_torM, ↓P.w_tnotM, ↓P.w_tyesM, ↓P.s_nxS, ↓P.s_bkS, ↓P.s_ctS, ↓P.s_retN, ↓P.s_noS, ↓P.s_seqS, ↓P.s_retS, ↓P.s_dropS, ↓P.s_ifS, ↓P.s_setS, ↓P.s_asgS, ↓P.w_nameG, ↓P.w_nilG, ↓P.w_consG, ↓P.w_tupG1, ↓P.w_tupG2, ↓P.w_tupG3, ↓P.w_tupG4, ↓P.parK_eq, ↓P.par3K_eq, ↓P.s_parS, ↓P.s_par3S, ↓P.augK_eq, ↓P.s_aug0, ↓P.s_aug1, ↓P.s_aug2, ↓P.s_aug3, ↓P.s_aug4, ↓P.s_aug5, ↓P.s_aug6, ↓P.s_aug7, ↓P.s_aug8, ↓P.s_aug9, ↓P.s_aug10, ↓P.s_aug11, ↓P.s_aug12, ↓P.s_aug13, ↓P.s_aug14, ↓P.s_aug15, ↓P.s_loop0, ↓P.s_loop1, ↓P.s_forS, ↓P.cellK_eq, P.lstCK_eq, P.lstK_eq, ↓P.seqVK_l, ↓P.seqVK_f, ↓P.tupVK_eq, P.rng1K_eq, ↓P.tup1K_eq, ↓P.str1K_eq, ↓P.intK_eq, P.strsK_eq, P.v_sub, P.v_lt, P.v_le, P.v_gt, P.v_ge, ↓P.v_mul, ↓P.v_fdiv, ↓P.v_mod, P.v_pow, P.v_addI, P.v_addT, P.v_addL, P.v_eqI, P.v_neI, P.v_eqS, P.v_neS, P.v_isN, P.v_notN, ↓P.v_ixT, ↓P.v_ixL, ↓P.v_ixF, P.ixCK_l, P.ixCK_d, ↓P.v_ixC, ↓P.v_ixD, P.v_lenT, P.v_lenL, P.v_lenF, P.v_int, P.v_min2, P.v_max2, P.v_tupL, ↓P.w_callM, ↓P.w_callWN, ↓P.w_makeM, ↓P.w_makeN, ↓P.w_makeWN, ↓P.w_fldM, ↓P.v_fld, P.insK_eq, ↓P.v_fldC, ↓P.w_frM, P.v_frV, ↓P.v_frC, ↓P.w_bmC, ↓P.w_itSeqM, ↓P.w_itTupM, ↓P.w_rng1M, ↓P.w_subG, ↓P.w_setO, ↓P.v_append, ↓P.v_popAt, ↓P.w_lcN, ↓P.w_sortSetM, ↓P.w_body, ↓P.clsCK_eq, ↓P.clsK_v, ↓P.clsK_c, ↓P.w_callWn, ↓P.w_methM, ↓P.w_methW, ↓P.nonK_eq, ↓P.w_makeW, ↓P.insPK_eq, ↓P.s_setfS, ↓P.v_isi, P.tnE_v, P.tnP_non, P.tnP_bl, P.tnP_int, P.tnP_str, P.tnP_tup, P.tnP_lst, P.tnP_ins, ↓P.w_enumM, ↓P.w_starM, P.seqE_t, P.seqE_l, P.lstE_l, P.lstE_f, ↓P.w_nxM, ↓P.w_nxT, ↓P.w_propN, ↓P.w_gIxM, ↓P.w_slM, ↓P.w_noPM, ↓P.w_partM, P.v_slT, P.v_slL, P.v_frlL, ↓P.w_revM, P.v_all, P.v_any, P.blsOf_map, P.v_in2, P.v_notIn2, P.v_eq2, P.v_ne2, ↓P.w_starC, P.isB_NoneType_int, P.isB_NoneType_bool, P.isB_NoneType_str, P.isB_NoneType_tuple, P.isB_NoneType_list, P.isB_NoneType_dict, P.isB_int_int, P.isB_int_bool, P.isB_int_str, P.isB_int_tuple, P.isB_int_list, P.isB_int_dict, P.isB_bool_int, P.isB_bool_bool, P.isB_bool_str, P.isB_bool_tuple, P.isB_bool_list, P.isB_bool_dict, P.isB_str_int, P.isB_str_bool, P.isB_str_str, P.isB_str_tuple, P.isB_str_list, P.isB_str_dict, P.isB_tuple_int, P.isB_tuple_bool, P.isB_tuple_str, P.isB_tuple_tuple, P.isB_tuple_list, P.isB_tuple_dict, P.isB_list_int, P.isB_list_bool, P.isB_list_str, P.isB_list_tuple, P.isB_list_list, P.isB_list_dict, P.isB_dict_int, P.isB_dict_bool, P.isB_dict_str, P.isB_dict_tuple, P.isB_dict_list, P.isB_dict_dict, P.valsE_nil, P.valsE_v, P.valsE_c, P.valsE_n, ↓P.valK_eq, ↓P.w_scope, P.startE_eq, ↓P.turnI_nx, ↓P.turnI_ct, ↓P.turnI_bk, ↓P.turnI_rt, ↓P.turnI_exc, ↓P.w_lc0, ↓P.w_lc1, P.ofString_inj, P.eqB_int, P.eqB_str, P.wipeR_nil, P.wipeR_cons, P.v_lenS, P.v_lenC, P.strVK_eq, ↓P.w_itStrM, P.dctE_d, P.dctE_t, P.dctE_l, P.dctE_f, P.v_listT, P.v_listL, P.v_listD, P.v_sortD, P.v_sortL, P.v_dictL, P.v_dictD, P.dzK_eq, ↓P.w_dictZip, P.strsOf_mapS, ↓P.w_tupIxM, ↓P.w_ownAdd, ↓P.w_dnew, ↓P.w_disp, P.dispK_1, P.keyP_str, P.v_orD, ↓P.w_sortSetTM, ↓P.w_lc2, P.strsK_app, P.rgK_eq, ↓P.w_rgList, T.fc_acts_Rule, T.fc_asked_rules_Run, T.fc_asks_Rule, T.fc_depth_Stack, T.fc_mark_Run, T.fc_names_Stack, T.fc_parts_Stack, T.fc_steps_Stack, T.fc_told_Run, T.ib_Rule, T.io_Rule_Rule, T.io_Rule_Run, T.io_Rule_Stack, T.iy_Rule_int, T.iy_Rule_bool, T.iy_Rule_str, T.iy_Rule_tuple, T.iy_Rule_list, T.iy_Rule_dict, T.ib_Run, T.io_Run_Rule, T.io_Run_Run, T.io_Run_Stack, T.iy_Run_int, T.iy_Run_bool, T.iy_Run_str, T.iy_Run_tuple, T.iy_Run_list, T.iy_Run_dict, T.ib_Stack, T.io_Stack_Rule, T.io_Stack_Run, T.io_Stack_Stack, T.iy_Stack_int, T.iy_Stack_bool, T.iy_Stack_str, T.iy_Stack_tuple, T.iy_Stack_list, T.iy_Stack_dict, T.pn_Rule_0, T.pv_Rule_0, T.lk_Rule_1_0, T.pn_Rule_1_0, T.pv_Rule_1_0, T.pn_Rule_1, T.pv_Rule_1, T.lk_Rule_2_0, T.pn_Rule_2_0, T.pv_Rule_2_0, T.lk_Rule_2_1, T.pn_Rule_2_1, T.pv_Rule_2_1, T.nc_Rule_action_for_0, T.nc_Rule_action_for_1, T.nc_Rule_action_for_2, T.pn_Run_0, T.pv_Run_0, T.lk_Run_1_0, T.pn_Run_1_0, T.pv_Run_1_0, T.pn_Run_1, T.pv_Run_1, T.lk_Run_2_0, T.pn_Run_2_0, T.pv_Run_2_0, T.lk_Run_2_1, T.pn_Run_2_1, T.pv_Run_2_1, T.pn_Run_2, T.pv_Run_2, T.lk_Run_3_0, T.pn_Run_3_0, T.pv_Run_3_0, T.lk_Run_3_1, T.pn_Run_3_1, T.pv_Run_3_1, T.lk_Run_3_2, T.pn_Run_3_2, T.pv_Run_3_2, T.nc_Run_ended_0, T.nc_Run_ended_1, T.nc_Run_ended_2, T.nc_Run_ended_3, T.nc_Run_outcome_0, T.nc_Run_outcome_1, T.nc_Run_outcome_2, T.nc_Run_outcome_3, T.pn_Stack_0, T.pv_Stack_0, T.lk_Stack_1_0, T.pn_Stack_1_0, T.pv_Stack_1_0, T.pn_Stack_1, T.pv_Stack_1, T.lk_Stack_2_0, T.pn_Stack_2_0, T.pv_Stack_2_0, T.lk_Stack_2_1, T.pn_Stack_2_1, T.pv_Stack_2_1, T.pn_Stack_2, T.pv_Stack_2, T.lk_Stack_3_0, T.pn_Stack_3_0, T.pv_Stack_3_0, T.lk_Stack_3_1, T.pn_Stack_3_1, T.pv_Stack_3_1, T.lk_Stack_3_2, T.pn_Stack_3_2, T.pv_Stack_3_2, T.pn_Stack_3, T.pv_Stack_3, T.lk_Stack_4_0, T.pn_Stack_4_0, T.pv_Stack_4_0, T.lk_Stack_4_1, T.pn_Stack_4_1, T.pv_Stack_4_1, T.lk_Stack_4_2, T.pn_Stack_4_2, T.pv_Stack_4_2, T.lk_Stack_4_3, T.pn_Stack_4_3, T.pv_Stack_4_3, T.nc_Stack___add___0, T.nc_Stack___add___1, T.nc_Stack___add___2, T.nc_Stack___add___3, T.nc_Stack___add___4, T.in_ok, T.in_bad, T.eq_reset, T.eq_die, T.eq_done, T.eq_none, T.eq_good, T.in_letter, T.tn_rule, eq_self, decide_true, decide_false, String.reduceEq, String.reduceNe, Bool.not_eq_eq_eq_not, List.length_map, List.map_cons, List.map_nil, List.replicate_succ, List.replicate_zero, decide_eq_true_eq, decide_eq_false_iff_not, Bool.not_eq_true', Bool.not_eq_false', Bool.not_true, Bool.not_false, if_true, if_false, List.getElem?_cons_zero, List.getElem?_cons_succ, List.set_cons_zero, List.set_cons_succ, List.cons_append, List.nil_append, List.length_cons, List.length_nil, and_true, true_and, ↓reduceIte, reduceCtorEq, Int.reduceLT, Int.reduceLE, Int.reduceEq, Int.reduceNe, Int.reduceAdd, Int.reduceSub, Int.reduceMul, Int.reduceDiv, Int.reduceMod, Int.reducePow, Int.reduceNeg, Int.reduceToNat, P.natAbs10, Nat.reduceAdd, Nat.reduceSub, Nat.reduceMul, Nat.reduceLT, Nat.reduceLeDiff, Nat.reduceEqDiff, Nat.reducePow, or_true, true_or, and_self, not_true_eq_false, not_false_eq_true, Bool.false_eq_true, Bool.true_eq_false, $ls,*])
/-- a drawn stack: its modules, its size, its depth -/
structure Dr (N : List Str) (most d : Nat) (es : List Ent) : Prop where
  len : es.length ≤ 4
  size : size es ≤ most
  deep : deep es ≤ d
  good : GoodL es
  mem : ∀ x ∈ flat es, x.1 ∈ N
theorem names_le {N : List Str} {es : List Ent} (h : ∀ x ∈ flat es, x.1 ∈ N) : (namesOf es).length ≤ N.length := by
  refine nodup_sub_len (nodup_sortU _) fun x hx => ?_
  obtain ⟨y, hy, rfl⟩ := List.mem_map.mp (mem_sortU.mp hx)
  exact h y hy
theorem Dr.lim {N : List Str} {most d : Nat} {es : List Ent} (h : Dr N most d es) (hN : N.length ≤ 6) (hm : most ≤ 12) (hd : d ≤ 3) : Lim es :=
  ⟨by have := h.len; omega, by have := h.size; omega, by have := names_le h.mem; omega, by have := h.deep; omega⟩
theorem goodL_append {xs ys : List Ent} (h1 : GoodL xs) (h2 : GoodL ys) : GoodL (xs ++ ys) := by
  induction xs with
  | nil => exact h2
  | cons e r ih => exact ⟨h1.1, ih h1.2⟩
theorem good_rule {m : Str} {t : Tb} (h : t.Ok) : GoodL [.rule m t] := ⟨by rw [Good1]; exact h, trivial⟩
theorem good_sub {xs : List Ent} (h : Lim xs) (g : GoodL xs) : GoodL [.sub xs] := ⟨by rw [Good1]; exact ⟨h, g⟩, trivial⟩
theorem turnI_of {J : P.Env → Sto → Prop} {S : So → Prop} {m : So} (h : ∃ ρ μ, m = .nx ρ μ ∧ J ρ μ) : turnI J S m := by
  obtain ⟨ρ, μ, rfl, h⟩ := h
  rw [turnI_nx]
  exact h
def b_rule (cl : Nat → FC) : FS := (ifS (tstM (opM gtO (varM 6) (cM (.int 0)))) (seqS (dropS (bmC appendO (varM 5) (consM (tupM (consM (callM (cl f_l_pick) 2 (consM (varM 0) (consM (varM 1) nilM))) (consM (callM (cl f_l_table) 2 (consM (varM 0) (consM (varM 4) nilM))) nilM))) nilM)))
    (setS 6 (opM subO (varM 6) (cM (.int 1))))) nxS)
abbrev plE (N : List Str) (most d : Nat) (es : List Ent) (x7 x8 : Option EV) : P.Env := [some (.c 0), some (.v (.lst (N.map PV.str))), some (.v (.int most)), some (.v (.int d)), some (.v (.bl false)), some (.c 1), some (.v (.int ((most - M.size es : Nat) : Int))), x7, x8]
def PlI (N : List Str) (most d : Nat) (ns : List Int) (i : Nat) (ρ : P.Env) (μ : Sto) : Prop := ∃ (es : List Ent) (row : List PV) (x7 x8 : Option EV), es.length ≤ i ∧ M.size es ≤ most ∧ M.deep es ≤ d ∧ GoodL es ∧ (∀ x ∈ flat es, x.1 ∈ N) ∧ RowOk row ns ∧ ρ = plE N most d es x7 x8 ∧ μ = [.lst row, .lst (es.map plPV)]
theorem rule_more {n : Nat} (hn : 2 ≤ n) {N : List Str} (hN : N ≠ []) (hN6 : N.length ≤ 6) {most d i : Nat} (hd : 1 ≤ d) {ns : List Int} {es : List Ent} {row : List PV} {x7 x8 : Option EV} (hi : i ≤ 4) (h1 : es.length ≤ i) (h2 : M.size es ≤ most) (h3 : M.deep es ≤ d) (h4 : GoodL es) (h5 : ∀ x ∈ flat es, x.1 ∈ N) (h6 : RowOk row ns) :
    WpS (b_rule (call n) (plE N most d es x7 x8) [.lst row, .lst (es.map plPV)]) (fun m => ∃ ρ μ, m = .nx ρ μ ∧ PlI N most d ns (i + 1) ρ μ) := by
  simp_arith [b_rule]
  by_cases hl : M.size es < most
  · have hl' : (0 : Int) < ((most - M.size es : Nat) : Int) := by omega
    simp_arith [hl']
    refine pick_sp (by omega) h6 (by rw [List.length_map]; exact List.length_pos_iff.mpr hN) (by rw [List.length_map]; omega) fun x r1 hx hr1 => ?_
    obtain ⟨m, hm, rfl⟩ := List.mem_map.mp hx
    simp_arith []
    refine table_sp (by omega) hr1 fun t r2 ht hr2 => ?_
    simp_arith [sizeL]
    refine ⟨by omega, ?_⟩
    have e1 : flat (es ++ [.rule m t]) = flat es ++ [(m, t)] := by rw [flat_append]; rfl
    have e2 : M.size (es ++ [.rule m t]) = M.size es + 1 := by show (flat _).length = (flat _).length + 1; rw [e1, List.length_append]; rfl
    refine ⟨_, _, rfl, es ++ [.rule m t], r2, x7, x8, by rw [List.length_append]; simp; omega, by omega, by rw [deep_append]; show max _ (max 1 1) ≤ _; omega, goodL_append h4 (good_rule ht), ?_, hr2, ?_, ?_⟩
    · intro x hx
      rw [e1] at hx
      rcases List.mem_append.mp hx with hx | hx
      · exact h5 x hx
      · rw [List.mem_singleton.mp hx]; exact hm
    · rw [show ((most - M.size es : Nat) : Int) - 1 = ((most - M.size (es ++ [.rule m t]) : Nat) : Int) by omega]
    · rw [List.map_append]; rfl
  · have hl' : ¬ (0 : Int) < ((most - M.size es : Nat) : Int) := by omega
    simp_arith [hl']
    exact ⟨_, _, rfl, es, row, x7, x8, by omega, h2, h3, h4, h5, h6, rfl, rfl⟩
theorem plain_sp (N : List Str) (hN : N ≠ []) (hN6 : N.length ≤ 6) : ∀ (d : Nat), 1 ≤ d → d ≤ 3 → ∀ (most : Nat), most ≤ 12 → ∀ {n : Nat}, d + 3 ≤ n → ∀ {row : List PV} {ns : List Int}, RowOk row ns → ∀ {μ : Sto} {Q : EV → Sto → Prop} {X : XQ},
    (∀ (es : List Ent) row', Dr N most d es → RowOk row' ns → Q (.v (.lst (es.map plPV))) (.lst row' :: μ)) →
    WpE (callS (call n f_l_plain) 5 [.c 0, .v (.lst (N.map PV.str)), .v (.int most), .v (.int d), .v (.bl false)] (.lst row :: μ)) Q X := by
  intro d
  induction d with
  | zero => intro h; omega
  | succ d ih =>
    intro _ hd3 most hmost n hn row ns hrow μ Q X q
    refine call_c (k := 0) (x := .lst row) (ps := [.lst (N.map PV.str), .int most, .int ((d + 1 : Nat) : Int), .bl false]) rfl rfl rfl rfl ?_
    rw [call_at _ (by omega), t_l_plain]
    simp_arith [b_l_plain]
    refine taken_sp (by omega) hrow (by omega) (by omega) fun k row1 hk hrow1 => ?_
    simp_arith []
    refine ⟨by omega, ?_⟩
    rw [show ((k : Nat) : Int).toNat = k by omega]
    refine loop_rng k (PlI N most (d + 1) ns) ?_ ?_ ⟨[], row1, none, none, Nat.le_refl _, Nat.zero_le _, by show 1 ≤ _; omega, trivial, fun x hx => (by cases hx), hrow1, rfl, rfl⟩
    · rintro i ρ μ hi ⟨es, row, x7, x8, h1, h2, h3, h4, h5, h6, rfl, rfl⟩
      have rest : ∀ (row : List PV) (x7 x8 : Option EV), RowOk row ns → ∀ S, WpS (b_rule (call (n - 1)) (plE N most (d + 1) es x7 x8) [.lst row, .lst (es.map plPV)]) (turnI (PlI N most (d + 1) ns (i + 1)) S) :=
        fun row x7 x8 h6 S => (rule_more (by omega) hN hN6 (by omega) (by omega) h1 h2 h3 h4 h5 h6).mono fun m => turnI_of
      have eb : b_l_plain_1 (call (n - 1)) = ifS (tandM (tstM (opM gtO (varM 3) (cM (.int 1)))) (tandM (tstM (opM gtO (varM 6) (cM (.int 0)))) (tstM (opM eqO (callM (call (n - 1) f_l_taken) 2 (consM (varM 0) (consM (cM (.int 4)) nilM))) (cM (.int 0)))))) (seqS (setS 8 (callM (call (n - 1) f_l_plain) 5 (consM (varM 0) (consM (varM 1) (consM (cbM min2O (consM (varM 6) (consM (cM (.int 3)) nilM))) (consM (opM subO (varM 3) (cM (.int 1))) (consM (varM 4) nilM)))))))
    (seqS (dropS (bmC appendO (varM 5) (consM (varM 8) nilM)))
    (setS 6 (opM subO (varM 6) (cbM lenO (consM (callM (call (n - 1) f_l_rules) 1 (consM (varM 8) nilM)) nilM)))))) (b_rule (call (n - 1))) := rfl
      rw [eb]
      simp_arith []
      by_cases c1 : (1 : Int) < ((d + 1 : Nat) : Int)
      · simp_arith [c1]
        by_cases c2 : (0 : Int) < ((most - M.size es : Nat) : Int)
        · simp_arith [c2]
          refine taken_sp (by omega) h6 (by omega) (by omega) fun k2 row2 hk2 h6' => ?_
          simp_arith []
          by_cases c3 : ((k2 : Nat) : Int) = 0
          · simp_arith [c3]
            have em : (if (3 : Int) < ((most - M.size es : Nat) : Int) then (3 : Int) else ((most - M.size es : Nat) : Int)) = ((min (most - M.size es) 3 : Nat) : Int) := by split <;> omega
            rw [em, show ((d + 1 : Nat) : Int) - 1 = (d : Nat) by omega]
            refine ih (by omega) (by omega) (min (most - M.size es) 3) (by omega) (by omega) h6' fun xs row3 hx h7 => ?_
            simp_arith [sizeL]
            refine ⟨by omega, ?_⟩
            have hxs := hx.size
            refine rules_sp d xs hx.deep (by omega) (by omega) ?_
            simp_arith []
            have e1 : flat (es ++ [.sub xs]) = flat es ++ flat xs := by rw [flat_append]; simp [flat, flat1]
            have e2 : M.size (es ++ [.sub xs]) = M.size es + M.size xs := by show (flat _).length = (flat _).length + (flat _).length; rw [e1, List.length_append]
            have hdx := hx.deep
            refine ⟨es ++ [.sub xs], row3, some (.v (.int i)), some (.v (.lst (xs.map plPV))), by rw [List.length_append]; simp; omega, by omega, by rw [deep_append]; show max _ (max (deep1 (.sub xs) + 1) 1) ≤ _; rw [deep1]; omega, goodL_append h4 (good_sub (hx.lim hN6 (by omega) (by omega)) hx.good), ?_, h7, ?_, ?_⟩
            · intro x hx'
              rw [e1] at hx'
              rcases List.mem_append.mp hx' with hx' | hx'
              · exact h5 x hx'
              · exact hx.mem x hx'
            · rw [show ((most - M.size es : Nat) : Int) - ((flat xs).length : Nat) = ((most - M.size (es ++ [.sub xs]) : Nat) : Int) by show _ - ((M.size xs : Nat) : Int) = _; omega]
            · rw [List.map_append, List.map_cons, List.map_nil, plPV, plPVs_map]
          · simp_arith [c3]; exact rest _ _ _ h6' _
        · simp_arith [c2]; exact rest _ _ _ h6 _
      · simp_arith [c1]; exact rest _ _ _ h6 _
    · rintro ρ μ ⟨es, row, x7, x8, h1, h2, h3, h4, h5, h6, rfl, rfl⟩
      simp_arith []
      exact ⟨_, _, _, rfl, rfl, rfl, q es row ⟨by omega, h2, h3, h4, h5⟩ h6⟩
end T


set_option Elab.async false
set_option linter.all false
set_option maxRecDepth 100000
set_option maxHeartbeats 4000000
set_option pp.maxSteps 250
namespace T
open PySem PySem.Spec L2 G P M
local macro_rules | `(tactic| simp_arith [$ls,*]) => `(tactic| simp -failIfUnchanged -dsimp only [P.evK_eq, P.optK_some, ↓P.w_ok, ↓P.w_exc, ↓P.w_no, ↓P.w_bind, ↓P.s_nx, ↓P.s_rt, ↓P.s_bk, ↓P.s_ct, ↓P.s_exc, ↓P.s_no, ↓P.s_stm, ↓P.xS_eq, ↓P.s_seqm, ↓P.s_turnm, ↓P.w_fin, ↓P.seqK_nx, ↓P.seqK_rt, ↓P.seqK_bk, ↓P.seqK_ct, ↓P.seqK_exc, ↓P.turnK_nx, ↓P.turnK_ct, ↓P.turnK_bk, ↓P.turnK_rt, ↓P.turnK_exc, ↓P.finK_nx, ↓P.finK_rt, ↓P.finK_exc, ↓P.w_var0, ↓P.upd0, ↓P.w_var1, ↓P.upd1, ↓P.w_var2, ↓P.upd2, ↓P.w_var3, ↓P.upd3, ↓P.w_var4, ↓P.upd4, ↓P.w_var5, ↓P.upd5, ↓P.w_var6, ↓P.upd6, ↓P.w_var7, ↓P.upd7, ↓P.w_var8, ↓P.upd8, ↓P.w_var9, ↓P.upd9, ↓P.w_var10, ↓P.upd10, ↓P.w_var11, ↓P.upd11, ↓P.w_var12, ↓P.upd12, ↓P.w_var13, ↓P.upd13, ↓P.w_var14, ↓P.upd14, ↓P.w_var15, ↓P.upd15, ↓P.w_var16, ↓P.upd16, ↓P.w_var17, ↓P.upd17, ↓P.w_var18, ↓P.upd18, ↓P.w_var19, ↓P.upd19, ↓P.w_var20, ↓P.upd20, ↓P.w_var21, ↓P.upd21, ↓P.w_var22, ↓P.upd22, ↓P.w_var23, ↓P.upd23, ↓P.w_var24, ↓P.upd24, ↓P.w_var25, ↓P.upd25, P.at0, P.ixN0, P.at1, P.ixN1, P.at2, P.ixN2, P.at3, P.ixN3, P.at4, P.ixN4, P.at5, P.ixN5, P.at6, P.ixN6, P.at7, P.ixN7, P.at8, P.ixN8, P.at9, P.ixN9, P.at10, P.ixN10, P.at11, P.ixN11, P.at12, P.ixN12, ↓P.w_cM, ↓P.w_opM, ↓P.w_unM, ↓P.w_blE, ↓P.w_andVM, ↓P.w_orVM, ↓P.w_notVM, ↓P.w_ifM, ↓P.w_chainM, ↓P.w_nilM, ↓P.w_consM, P.sizeL, ↓P.vals0, ↓P.vals1, ↓P.vals2, ↓P.vals3, ↓P.vals4, ↓P.vals5, ↓P.vals6, ↓P.vals7, ↓P.vals8, ↓P.vals9, ↓P.vals10, ↓P.vals11, ↓P.vals12, ↓P.w_tupM, ↓P.w_lstM, ↓P.w_lstC, ↓P.w_cbM, ↓P.w_tstM, ↓P.w_tandM, ↓P.w_torM, ↓P.w_tnotM, ↓P.w_tyesM, ↓P.s_nxS, ↓P.s_bkS, ↓P.s_ctS, ↓P.s_retN, ↓P.s_noS, ↓P.s_seqS, ↓P.s_retS, ↓P.s_dropS, ↓P.s_ifS, ↓P.s_setS, ↓P.s_asgS, ↓P.w_nameG, ↓P.w_nilG, ↓P.w_consG, ↓P.w_tupG1, ↓P.w_tupG2, ↓P.w_tupG3, ↓P.w_tupG4, ↓P.parK_eq, ↓P.par3K_eq, ↓P.s_parS, ↓P.s_par3S, ↓P.augK_eq, ↓P.s_aug0, ↓P.s_aug1, ↓P.s_aug2, ↓P.s_aug3, ↓P.s_aug4, ↓P.s_aug5, ↓P.s_aug6, ↓P.s_aug7, ↓P.s_aug8, ↓P.s_aug9, ↓P.s_aug10, ↓P.s_aug11, ↓P.s_aug12, ↓P.s_aug13, ↓P.s_aug14, ↓P.s_aug15, ↓P.s_loop0, ↓P.s_loop1, ↓P.s_forS, ↓P.cellK_eq, P.lstCK_eq, P.lstK_eq, ↓P.seqVK_l, ↓P.seqVK_f, ↓P.tupVK_eq, P.rng1K_eq, ↓P.tup1K_eq, ↓P.str1K_eq, ↓P.intK_eq, P.strsK_eq, P.v_sub, P.v_lt, P.v_le, P.v_gt, P.v_ge, ↓P.v_mul, ↓P.v_fdiv, ↓P.v_mod, P.v_pow, P.v_addI, P.v_addT, P.v_addL, P.v_eqI, P.v_neI, P.v_eqS, P.v_neS, P.v_isN, P.v_notN, ↓P.v_ixT, ↓P.v_ixL, ↓P.v_ixF, P.ixCK_l, P.ixCK_d, ↓P.v_ixC, ↓P.v_ixD, P.v_lenT, P.v_lenL, P.v_lenF, P.v_int, P.v_min2, P.v_max2, P.v_tupL, ↓P.w_callM, ↓P.w_callWN, ↓P.w_makeM, ↓P.w_makeN, ↓P.w_makeWN, ↓P.w_fldM, ↓P.v_fld, P.insK_eq, ↓P.v_fldC, ↓P.w_frM, P.v_frV, ↓P.v_frC, ↓P.w_bmC, ↓P.w_itSeqM, ↓P.w_itTupM, ↓P.w_rng1M, ↓P.w_subG, ↓P.w_setO, ↓P.v_append, ↓P.v_popAt, ↓P.w_lcN, ↓P.w_sortSetM, ↓P.w_body, ↓P.clsCK_eq, ↓P.clsK_v, ↓P.clsK_c, ↓P.w_callWn, ↓P.w_methM, ↓P.w_methW, ↓P.nonK_eq, ↓P.w_makeW, ↓P.insPK_eq, ↓P.s_setfS, ↓P.v_isi, P.tnE_v, P.tnP_non, P.tnP_bl, P.tnP_int, P.tnP_str, P.tnP_tup, P.tnP_lst, P.tnP_ins, ↓P.w_enumM, ↓P.w_starM, P.seqE_t, P.seqE_l, P.lstE_l, P.lstE_f, ↓P.w_nxM, ↓P.w_nxT, ↓P.w_propN, ↓P.w_gIxM, ↓P.w_slM, ↓P.w_noPM, ↓P.w_partM, P.v_slT, P.v_slL, P.v_frlL, ↓P.w_revM, P.v_all, P.v_any, P.blsOf_map, P.v_in2, P.v_notIn2, P.v_eq2, P.v_ne2, ↓P.w_starC, P.isB_NoneType_int, P.isB_NoneType_bool, P.isB_NoneType_str, P.isB_NoneType_tuple, P.isB_NoneType_list, P.isB_NoneType_dict, P.isB_int_int, P.isB_int_bool, P.isB_int_str, P.isB_int_tuple, P.isB_int_list, P.isB_int_dict, P.isB_bool_int, P.isB_bool_bool, P.isB_bool_str, P.isB_bool_tuple, P.isB_bool_list, P.isB_bool_dict, P.isB_str_int, P.isB_str_bool, P.isB_str_str, P.isB_str_tuple, P.isB_str_list, P.isB_str_dict, P.isB_tuple_int, P.isB_tuple_bool, P.isB_tuple_str, P.isB_tuple_tuple, P.isB_tuple_list, P.isB_tuple_dict, P.isB_list_int, P.isB_list_bool, P.isB_list_str, P.isB_list_tuple, P.isB_list_list, P.isB_list_dict, P.isB_dict_int, P.isB_dict_bool, P.isB_dict_str, P.isB_dict_tuple, P.isB_dict_list, P.isB_dict_dict, P.valsE_nil, P.valsE_v, P.valsE_c, P.valsE_n, ↓P.valK_eq, ↓P.w_scope, P.startE_eq, ↓P.turnI_nx, ↓P.turnI_ct, ↓P.turnI_bk, ↓P.turnI_rt, ↓P.turnI_exc, ↓P.w_lc0, ↓P.w_lc1, P.ofString_inj, P.eqB_int, P.eqB_str, P.wipeR_nil, P.wipeR_cons, P.v_lenS, P.v_lenC, P.strVK_eq, ↓P.w_itStrM, P.dctE_d, P.dctE_t, P.dctE_l, P.dctE_f, P.v_listT, P.v_listL, P.v_listD, P.v_sortD, P.v_sortL, P.v_dictL, P.v_dictD, P.dzK_eq, ↓P.w_dictZip, P.strsOf_mapS, ↓P.w_tupIxM, ↓P.w_ownAdd, ↓P.w_dnew, ↓P.w_disp, P.dispK_1, P.keyP_str, P.v_orD, ↓P.w_sortSetTM, ↓P.w_lc2, P.strsK_app, P.rgK_eq, ↓P.w_rgList, T.fc_acts_Rule, T.fc_asked_rules_Run, T.fc_asks_Rule, T.fc_depth_Stack, T.fc_mark_Run, T.fc_names_Stack, T.fc_parts_Stack, T.fc_steps_Stack, T.fc_told_Run, T.ib_Rule, T.io_Rule_Rule, T.io_Rule_Run, T.io_Rule_Stack, T.iy_Rule_int, T.iy_Rule_bool, T.iy_Rule_str, T.iy_Rule_tuple, T.iy_Rule_list, T.iy_Rule_dict, T.ib_Run, T.io_Run_Rule, T.io_Run_Run, T.io_Run_Stack, T.iy_Run_int, T.iy_Run_bool, T.iy_Run_str, T.iy_Run_tuple, T.iy_Run_list, T.iy_Run_dict, T.ib_Stack, T.io_Stack_Rule, T.io_Stack_Run, T.io_Stack_Stack, T.iy_Stack_int, T.iy_Stack_bool, T.iy_Stack_str, T.iy_Stack_tuple, T.iy_Stack_list, T.iy_Stack_dict, T.pn_Rule_0, T.pv_Rule_0, T.lk_Rule_1_0, T.pn_Rule_1_0, T.pv_Rule_1_0, T.pn_Rule_1, T.pv_Rule_1, T.lk_Rule_2_0, T.pn_Rule_2_0, T.pv_Rule_2_0, T.lk_Rule_2_1, T.pn_Rule_2_1, T.pv_Rule_2_1, T.nc_Rule_action_for_0, T.nc_Rule_action_for_1, T.nc_Rule_action_for_2, T.pn_Run_0, T.pv_Run_0, T.lk_Run_1_0, T.pn_Run_1_0, T.pv_Run_1_0, T.pn_Run_1, T.pv_Run_1, T.lk_Run_2_0, T.pn_Run_2_0, T.pv_Run_2_0, T.lk_Run_2_1, T.pn_Run_2_1, T.pv_Run_2_1, T.pn_Run_2, T.pv_Run_2, T.lk_Run_3_0, T.pn_Run_3_0, T.pv_Run_3_0, T.lk_Run_3_1, T.pn_Run_3_1, T.pv_Run_3_1, T.lk_Run_3_2, T.pn_Run_3_2, T.pv_Run_3_2, T.nc_Run_ended_0, T.nc_Run_ended_1, T.nc_Run_ended_2, T.nc_Run_ended_3, T.nc_Run_outcome_0, T.nc_Run_outcome_1, T.nc_Run_outcome_2, T.nc_Run_outcome_3, T.pn_Stack_0, T.pv_Stack_0, T.lk_Stack_1_0, T.pn_Stack_1_0, T.pv_Stack_1_0, T.pn_Stack_1, T.pv_Stack_1, T.lk_Stack_2_0, T.pn_Stack_2_0, T.pv_Stack_2_0, T.lk_Stack_2_1, T.pn_Stack_2_1, T.pv_Stack_2_1, T.pn_Stack_2, T.pv_Stack_2, T.lk_Stack_3_0, T.pn_Stack_3_0, T.pv_Stack_3_0, T.lk_Stack_3_1, T.pn_Stack_3_1, T.pv_Stack_3_1, T.lk_Stack_3_2, T.pn_Stack_3_2, T.pv_Stack_3_2, T.pn_Stack_3, T.pv_Stack_3, T.lk_Stack_4_0, T.pn_Stack_4_0, T.pv_Stack_4_0, T.lk_Stack_4_1, T.pn_Stack_4_1, T.pv_Stack_4_1, T.lk_Stack_4_2, T.pn_Stack_4_2, T.pv_Stack_4_2, T.lk_Stack_4_3, T.pn_Stack_4_3, T.pv_Stack_4_3, T.nc_Stack___add___0, T.nc_Stack___add___1, T.nc_Stack___add___2, T.nc_Stack___add___3, T.nc_Stack___add___4, T.in_ok, T.in_bad, T.eq_reset, T.eq_die, T.eq_done, T.eq_none, T.eq_good, T.in_letter, T.tn_rule, eq_self, decide_true, decide_false, String.reduceEq, String.reduceNe, Bool.not_eq_eq_eq_not, List.length_map, List.map_cons, List.map_nil, List.replicate_succ, List.replicate_zero, decide_eq_true_eq, decide_eq_false_iff_not, Bool.not_eq_true', Bool.not_eq_false', Bool.not_true, Bool.not_false, if_true, if_false, List.getElem?_cons_zero, List.getElem?_cons_succ, List.set_cons_zero, List.set_cons_succ, List.cons_append, List.nil_append, List.length_cons, List.length_nil, and_true, true_and, ↓reduceIte, reduceCtorEq, Int.reduceLT, Int.reduceLE, Int.reduceEq, Int.reduceNe, Int.reduceAdd, Int.reduceSub, Int.reduceMul, Int.reduceDiv, Int.reduceMod, Int.reducePow, Int.reduceNeg, Int.reduceToNat, P.natAbs10, Nat.reduceAdd, Nat.reduceSub, Nat.reduceMul, Nat.reduceLT, Nat.reduceLeDiff, Nat.reduceEqDiff, Nat.reducePow, or_true, true_or, and_self, not_true_eq_false, not_false_eq_true, Bool.false_eq_true, Bool.true_eq_false, $ls,*])
def base4 : List Str := ["key", "pin", "card", "lan"]
theorem base4_ok : ∀ s ∈ base4, WordOk s := by
  have h : ∀ s ∈ base4, (decide (1 ≤ s.length) && (decide (s.length ≤ 8) && s.cps.toList.all fun c => decide (c ∈ ("abcdefghijklmnopqrstuvwxyz" : Str).cps.toList))) = true := by decide +kernel
  intro s hs
  have := h s hs
  rw [Bool.and_eq_true, Bool.and_eq_true, List.all_eq_true] at this
  exact ⟨of_decide_eq_true this.1, of_decide_eq_true this.2.1, fun c hc => of_decide_eq_true (this.2.2 c hc)⟩
theorem names_sp {n : Nat} (hn : 2 ≤ n) {row : List PV} {ns : List Int} (h : RowOk row ns) {μ : Sto} {Q : EV → Sto → Prop} {X : XQ}
    (q : ∀ (N : List Str) row', N ≠ [] → N.length ≤ 3 → (∀ s ∈ N, s ∈ base4) → RowOk row' ns → Q (.v (.lst (N.map PV.str))) (.lst row' :: μ)) :
    WpE (callS (call n f_l_names) 2 [.c 0, .v (.int 3)] (.lst row :: μ)) Q X := by
  refine call_c (k := 0) (x := .lst row) (ps := [.int 3]) rfl rfl rfl rfl ?_
  rw [call_at _ (by omega), t_l_names]
  simp_arith [b_l_names]
  refine taken_sp (by omega) h (by omega) (by omega) fun k row1 hk hrow1 => ?_
  simp_arith []
  refine ⟨by omega, ?_⟩
  rw [show ((1 : Int) + (k : Nat)).toNat = k + 1 by omega]
  refine loop_rng (k + 1) (fun i ρ μ => ∃ (ws fs : List Str) (row : List PV) (x4 : Option EV), ws.length = 4 - i ∧ fs.length = i ∧ (∀ s ∈ ws, s ∈ base4) ∧ (∀ s ∈ fs, s ∈ base4) ∧ RowOk row ns ∧ ρ = [some (.c 0), some (.v (.int 3)), some (.c 1), some (.c 2), x4] ∧ μ = [.lst row, .lst (ws.map PV.str), .lst (fs.map PV.str)]) ?_ ?_
    ⟨base4, [], row1, none, rfl, rfl, fun s hs => hs, fun s hs => (by cases hs), hrow1, rfl, rfl⟩
  · rintro i ρ μ hi ⟨ws, fs, row, x4, h1, h2, h3, h4, h5, rfl, rfl⟩
    simp_arith [b_l_names_1]
    refine taken_sp (by omega) h5 (by omega) (by omega) fun j row2 hj hr2 => ?_
    have hjl : j < ws.length := by omega
    have e1 : seqIndex? (j : Int) ws.length = some j := by
      unfold seqIndex?
      simp only [Int.natCast_nonneg, if_true]
      simp; omega
    have e2 : (ws.map PV.str)[j]? = some (.str ws[j]) := by rw [List.getElem?_map, List.getElem?_eq_getElem hjl]; rfl
    simp_arith [e1, e2, sizeL]
    refine ⟨⟨by omega, by omega⟩, by omega, ws.eraseIdx j, fs ++ [ws[j]], row2, _, ?_, ?_, ?_, ?_, hr2, rfl, ?_⟩
    · rw [List.length_eraseIdx, if_pos hjl]; omega
    · rw [List.length_append, h2]; rfl
    · intro s hs; exact h3 s (List.mem_of_mem_eraseIdx hs)
    · intro s hs
      rcases List.mem_append.mp hs with hs | hs
      · exact h4 s hs
      · rw [List.mem_singleton.mp hs]; exact h3 _ (List.getElem_mem hjl)
    · rw [List.map_append]
      have : ∀ (l : List Str) (j : Nat), (l.map PV.str).eraseIdx j = (l.eraseIdx j).map PV.str := by
        intro l
        induction l with
        | nil => intro j; rfl
        | cons a r ih => intro j; cases j with
          | zero => rfl
          | succ j => simp [List.eraseIdx, ih]
      rw [this]
      rfl
  · rintro ρ μ ⟨ws, fs, row, x4, h1, h2, h3, h4, h5, rfl, rfl⟩
    simp_arith []
    exact ⟨_, _, _, rfl, rfl, rfl, q fs row (by intro z; rw [z] at h2; cases h2) (by omega) h4 h5⟩
theorem modules_sp {n : Nat} (es : List Ent) (hd : deep es + 1 ≤ n) (hs : size es ≤ 12) {μ : Sto} {Q : EV → Sto → Prop} {X : XQ} (q : Q (.v (.lst ((namesOf es).map PV.str))) μ) :
    WpE (callS (call n f_l_modules) 1 [.v (.lst (es.map plPV))] μ) Q X := by
  refine call_v (ps := [.lst (es.map plPV)]) rfl rfl ?_
  rw [call_at _ (by omega), t_l_modules]
  simp_arith [b_l_modules]
  refine rules_sp (deep es) es (Nat.le_refl _) (by omega) (by omega) ?_
  simp_arith []
  rw [List.map_map]
  refine lc_map (EV.v ∘ ruT) (fun x => PV.str x.1) (flat es) (fun x _ => ?_) (by rw [sizeL]; show size es ≤ _; omega) ?_
  · simp_arith [Function.comp]
  · have e : (flat es).map (fun x => PV.str x.1) = ((flat es).map (·.1)).map PV.str := by rw [List.map_map]; rfl
    rw [e]
    simp_arith []
    refine ⟨by show size es < 64; omega, ?_⟩
    exact ⟨_, rfl, q⟩
theorem lim_one {es : List Ent} (h : Lim es) {e : Ent} (he : e ∈ es) : Lim [e] := by
  have h1 := size_mem he
  have h2 := h.rules
  have h3 := h.depth
  have h4 := h.names
  have f : flat [e] = flat1 e := by rw [flat_cons]; simp [flat]
  refine ⟨by simp, ?_, ?_, ?_⟩
  · show (flat [e]).length ≤ 12; rw [f]; exact Nat.le_trans h1 h2
  · refine Nat.le_trans (sortU_sub fun x hx => ?_) h4
    rw [f] at hx
    obtain ⟨y, hy, rfl⟩ := List.mem_map.mp hx
    exact List.mem_map.mpr ⟨y, flat_mem he y hy, rfl⟩
  · show max (deep1 e + 1) 1 ≤ 3
    cases e with
    | rule m t => rw [deep1]; omega
    | sub xs => rw [deep1]; have := deep_mem he; omega
theorem made_sp : ∀ (d : Nat) (es : List Ent), deep es ≤ d → StOk es → (∀ x ∈ flat es, WordOk x.1) → ∀ {n : Nat}, d + 5 ≤ n → ∀ {μ : Sto} {Q : EV → Sto → Prop} {X : XQ}, Q (.v (stPV es)) μ →
    WpE (callS (call n f_l_made) 1 [.v (.lst (es.map plPV))] μ) Q X := by
  intro d
  induction d with
  | zero => intro es h; have := deep_pos es; omega
  | succ d ih =>
    intro es hd hok hw n hn μ Q X q
    refine call_v (ps := [.lst (es.map plPV)]) rfl rfl ?_
    rw [call_at _ (by omega), t_l_made]
    simp_arith [b_l_made]
    refine make_stack0 (by omega) ?_
    simp_arith []
    rw [List.map_map]
    refine loop_list (EV.v ∘ plPV) (fun r ρ μ => ∃ l x, es = l ++ r ∧ ρ = [some (.v (.lst (es.map plPV))), some (.v (stPV l)), x] ∧ μ = []) ?_ ?_ _ _ _ ⟨[], none, rfl, rfl, rfl⟩
    · rintro e r ρ μ ⟨l, x, hl, rfl, rfl⟩
      have hm : e ∈ es := by rw [hl]; exact List.mem_append_right _ List.mem_cons_self
      have l1 := lim_one hok.lim hm
      have l2 : Lim (l ++ [e]) := by
        have e1 : es.take (l.length + 1) = l ++ [e] := by rw [hl, List.take_append]; simp; exact List.take_of_length_le (Nat.le_succ _)
        rw [← e1]
        exact hok.lim.take _
      have add : ∀ (S : So → Prop) (p : PV), p = plPV e → WpE (callS (call (n - 1) f_Stack___add__) 2 [.v (stPV l), .v (stPV [e])] []) (fun x μ1 => turnI (fun ρ μ => ∃ l x, es = l ++ r ∧ ρ = [some (.v (.lst (es.map plPV))), some (.v (stPV l)), x] ∧ μ = []) S (.nx [some (.v (.lst (es.map plPV))), some x, some (.v p)] μ1)) (xS (turnI (fun ρ μ => ∃ l x, es = l ++ r ∧ ρ = [some (.v (.lst (es.map plPV))), some (.v (stPV l)), x] ∧ μ = []) S)) := by
        intro S p hp
        refine stack_add_sp (by omega) l [e] l2 ?_
        simp_arith []
        exact ⟨l ++ [e], _, by rw [hl, List.append_assoc]; rfl, rfl⟩
      cases e with
      | rule m t =>
        have hmf : (m, t) ∈ flat es := flat_mem hm (m, t) (by rw [flat1]; exact List.mem_singleton.mpr rfl)
        have ht : t.Ok := by have := goodL_mem hok.good hm; rw [Good1] at this; exact this
        have ep : plPV (.rule m t) = .tup [.str m, t.pv] := by rw [plPV]
        have ee : entPV (.rule m t) = ruPV (m, t) := by rw [entPV]
        simp_arith [Function.comp, b_l_made_1, ep]
        refine rule_sp (by omega) m (hw _ hmf) t ht ?_
        rw [← ee]
        simp_arith []
        refine make_stack1 (by omega) _ l1 ?_
        simp_arith []
        exact add _ _ ep.symm
      | sub xs =>
        have dm := deep_mem hm
        have g := goodL_mem hok.good hm
        rw [Good1] at g
        have ep : plPV (.sub xs) = .lst (xs.map plPV) := by rw [plPV, plPVs_map]
        have ee : entPV (.sub xs) = stPV xs := by rw [entPV]
        simp_arith [Function.comp, b_l_made_1, ep]
        refine ih xs (by omega) ⟨g.1, g.2⟩ (fun x hx => hw x (flat_mem hm x (by rw [flat1]; exact hx))) (by omega) ?_
        rw [← ee]
        simp_arith []
        refine make_stack1 (by omega) _ l1 ?_
        simp_arith []
        exact add _ _ ep.symm
    · rintro ρ μ ⟨l, x, hl, rfl, rfl⟩
      rw [List.append_nil] at hl
      subst hl
      simp_arith []
      exact ⟨_, rfl, q⟩
/-! ### all answers -/
def resL : List Res := [.yes, .no, .skip, .gone]
def extR (t : List Res) : List (List Res) := resL.map fun r => t ++ [r]
def allT : Nat → List (List Res)
  | 0 => [[]]
  | k + 1 => (allT k).flatMap extR
theorem allT_len : ∀ (k : Nat) (t : List Res), t ∈ allT k → t.length = k
  | 0, t, h => by rw [List.mem_singleton.mp h]; rfl
  | k + 1, t, h => by
    obtain ⟨u, hu, ht⟩ := List.mem_flatMap.mp h
    obtain ⟨r, _, rfl⟩ := List.mem_map.mp ht
    rw [List.length_append, allT_len k u hu]
    rfl
theorem flatMap_len (l : List (List Res)) : (l.flatMap extR).length = 4 * l.length := by
  induction l with
  | nil => rfl
  | cons a r ih => rw [List.flatMap_cons, List.length_append, ih, List.length_cons]; show 4 + _ = _; omega
theorem allT_count (k : Nat) : (allT k).length = 4 ^ k := by
  induction k with
  | zero => rfl
  | succ k ih => show ((allT k).flatMap extR).length = _; rw [flatMap_len, ih, Nat.pow_succ]; omega
def tupR (t : List Res) : PV := .tup (t.map Res.pv)
def allA (N : List Str) : List Ans := (allT N.length).map fun t => N.zip t
theorem ansPV_zip : ∀ {N : List Str} {t : List Res}, N.length = t.length → ansPV (N.zip t) = .dct (N.map Sum.inr) (t.map Res.pv)
  | [], [], _ => rfl
  | [], _ :: _, h => by simp at h
  | _ :: _, [], h => by simp at h
  | a :: N, b :: t, h => by
    have := ansPV_zip (N := N) (t := t) (by simpa using h)
    simp only [PV.dct.injEq] at this
    show PV.dct (ansK ((a, b) :: N.zip t)) (ansV ((a, b) :: N.zip t)) = _
    rw [show ansK ((a, b) :: N.zip t) = Sum.inr a :: ansK (N.zip t) from rfl, show ansV ((a, b) :: N.zip t) = b.pv :: ansV (N.zip t) from rfl, this.1, this.2]
    rfl
theorem all_sp {n : Nat} (hn : 1 ≤ n) (N : List Str) (hN : N.length ≤ 6) (hnd : N.Nodup) {μ : Sto} {Q : EV → Sto → Prop} {X : XQ} (q : Q (.v (.lst ((allA N).map ansPV))) μ) :
    WpE (callS (call n f_l_all) 1 [.v (.lst (N.map PV.str))] μ) Q X := by
  refine call_v (ps := [.lst (N.map PV.str)]) rfl rfl ?_
  rw [call_at _ (by omega), t_l_all]
  simp_arith [b_l_all]
  have p6 : ∀ k, k ≤ 6 → 4 ^ k ≤ 4096 := fun k hk => Nat.le_trans (Nat.pow_le_pow_right (by omega) hk) (by decide)
  rw [List.map_map]
  refine loop_nat (fun i ρ μ => ∃ x2 x3 x4, ρ = [some (.v (.lst (N.map PV.str))), some (.v (.lst ((allT i).map tupR))), x2, x3, x4, none] ∧ μ = []) ?_ ?_ ⟨none, none, none, rfl, rfl⟩
  · rintro i x ρ μ hx ⟨x2, x3, x4, rfl, rfl⟩
    have hi : i < N.length := by have := (List.getElem?_eq_some_iff.mp hx).1; rwa [List.length_map] at this
    have c1 := allT_count i
    have c2 := p6 i (by omega)
    have c3 := allT_count (i + 1)
    have c4 := p6 (i + 1) (by omega)
    simp_arith [b_l_all_2]
    rw [List.map_map]
    refine loop_list (EV.v ∘ tupR) (fun r ρ μ => ∃ l x4, allT i = l ++ r ∧ ρ = [some (.v (.lst (N.map PV.str))), some (.v (.lst ((allT i).map tupR))), some x, some (.v (.lst ((l.flatMap extR).map tupR))), x4, none] ∧ μ = []) ?_ ?_ _ _ _ ⟨[], _, rfl, rfl, rfl⟩
    · rintro t r ρ μ ⟨l, x4, hl, rfl, rfl⟩
      have tl : t.length = i := allT_len i t (by rw [hl]; exact List.mem_append_right _ List.mem_cons_self)
      have ll : l.length + 1 ≤ 4096 := by
        have := congrArg List.length hl
        rw [List.length_append, List.length_cons] at this
        omega
      simp_arith [Function.comp, b_l_all_1, tupR, sizeL]
      rw [flatMap_len]
      have ee : ((l ++ [t]).flatMap extR).map tupR = (l.flatMap extR).map tupR ++ [PV.tup (t.map Res.pv ++ [PV.str "yes"]), PV.tup (t.map Res.pv ++ [PV.str "no"]), PV.tup (t.map Res.pv ++ [PV.str "skip"]), PV.tup (t.map Res.pv ++ [PV.str "gone"])] := by
        rw [List.flatMap_append, List.map_append]
        simp [extR, resL, tupR, Res.s]
      refine ⟨by omega, by omega, by omega, by omega, by omega, l ++ [t], some (.v (.tup (t.map Res.pv))), by rw [hl, List.append_assoc]; rfl, ?_⟩
      rw [ee]
    · rintro ρ μ ⟨l, x4, hl, rfl, rfl⟩
      rw [List.append_nil] at hl
      simp_arith []
      exact ⟨_, _, _, by rw [← hl]; rfl⟩
  · rintro ρ μ ⟨x2, x3, x4, rfl, rfl⟩
    rw [List.length_map]
    simp_arith []
    rw [List.map_map]
    have c1 := allT_count N.length
    have c2 := p6 N.length hN
    refine lc_map (EV.v ∘ tupR) (fun t => ansPV (N.zip t)) (allT N.length) (fun t ht => ?_) (by rw [sizeL]; omega) ?_
    · have tl := allT_len _ t ht
      simp_arith [Function.comp, tupR, hnd, tl]
      rw [ansPV_zip tl.symm]
    · simp_arith []
      refine ⟨_, rfl, ?_⟩
      rw [allA, List.map_map] at q
      exact q
end T


set_option Elab.async false
set_option linter.all false
set_option maxRecDepth 100000
set_option maxHeartbeats 4000000
set_option pp.maxSteps 250
namespace T
open PySem PySem.Spec L2 G P M
local macro_rules | `(tactic| simp_arith [$ls,*]) => `(tactic| simp -failIfUnchanged -dsimp only [P.evK_eq, P.optK_some, ↓P.w_ok, ↓P.w_exc, ↓P.w_no, ↓P.w_bind, ↓P.s_nx, ↓P.s_rt, ↓P.s_bk, ↓P.s_ct, ↓P.s_exc, ↓P.s_no, ↓P.s_stm, ↓P.xS_eq, ↓P.s_seqm, ↓P.s_turnm, ↓P.w_fin, ↓P.seqK_nx, ↓P.seqK_rt, ↓P.seqK_bk, ↓P.seqK_ct, ↓P.seqK_exc, ↓P.turnK_nx, ↓P.turnK_ct, ↓P.turnK_bk, ↓P.turnK_rt, ↓P.turnK_exc, ↓P.finK_nx, ↓P.finK_rt, ↓P.finK_exc, ↓P.w_var0, ↓P.upd0, ↓P.w_var1, ↓P.upd1, ↓P.w_var2, ↓P.upd2, ↓P.w_var3, ↓P.upd3, ↓P.w_var4, ↓P.upd4, ↓P.w_var5, ↓P.upd5, ↓P.w_var6, ↓P.upd6, ↓P.w_var7, ↓P.upd7, ↓P.w_var8, ↓P.upd8, ↓P.w_var9, ↓P.upd9, ↓P.w_var10, ↓P.upd10, ↓P.w_var11, ↓P.upd11, ↓P.w_var12, ↓P.upd12, ↓P.w_var13, ↓P.upd13, ↓P.w_var14, ↓P.upd14, ↓P.w_var15, ↓P.upd15, ↓P.w_var16, ↓P.upd16, ↓P.w_var17, ↓P.upd17, ↓P.w_var18, ↓P.upd18, ↓P.w_var19, ↓P.upd19, ↓P.w_var20, ↓P.upd20, ↓P.w_var21, ↓P.upd21, ↓P.w_var22, ↓P.upd22, ↓P.w_var23, ↓P.upd23, ↓P.w_var24, ↓P.upd24, ↓P.w_var25, ↓P.upd25, P.at0, P.ixN0, P.at1, P.ixN1, P.at2, P.ixN2, P.at3, P.ixN3, P.at4, P.ixN4, P.at5, P.ixN5, P.at6, P.ixN6, P.at7, P.ixN7, P.at8, P.ixN8, P.at9, P.ixN9, P.at10, P.ixN10, P.at11, P.ixN11, P.at12, P.ixN12, ↓P.w_cM, ↓P.w_opM, ↓P.w_unM, ↓P.w_blE, ↓P.w_andVM, ↓P.w_orVM, ↓P.w_notVM, ↓P.w_ifM, ↓P.w_chainM, ↓P.w_nilM, ↓P.w_consM, P.sizeL, ↓P.vals0, ↓P.vals1, ↓P.vals2, ↓P.vals3, ↓P.vals4, ↓P.vals5, ↓P.vals6, ↓P.vals7, ↓P.vals8, ↓P.vals9, ↓P.vals10, ↓P.vals11, ↓P.vals12, ↓P.w_tupM, ↓P.w_lstM, ↓P.w_lstC, ↓P.w_cbM, ↓P.w_tstM, ↓P.w_tandM, ↓P.w_torM, ↓P.w_tnotM, ↓P.w_tyesM, ↓P.s_nxS, ↓P.s_bkS, ↓P.s_ctS, ↓P.s_retN, ↓P.s_noS, ↓P.s_seqS, ↓P.s_retS, ↓P.s_dropS, ↓P.s_ifS, ↓P.s_setS, ↓P.s_asgS, ↓P.w_nameG, ↓P.w_nilG, ↓P.w_consG, ↓P.w_tupG1, ↓P.w_tupG2, ↓P.w_tupG3, ↓P.w_tupG4, ↓P.parK_eq, ↓P.par3K_eq, ↓P.s_parS, ↓P.s_par3S, ↓P.augK_eq, ↓P.s_aug0, ↓P.s_aug1, ↓P.s_aug2, ↓P.s_aug3, ↓P.s_aug4, ↓P.s_aug5, ↓P.s_aug6, ↓P.s_aug7, ↓P.s_aug8, ↓P.s_aug9, ↓P.s_aug10, ↓P.s_aug11, ↓P.s_aug12, ↓P.s_aug13, ↓P.s_aug14, ↓P.s_aug15, ↓P.s_loop0, ↓P.s_loop1, ↓P.s_forS, ↓P.cellK_eq, P.lstCK_eq, P.lstK_eq, ↓P.seqVK_l, ↓P.seqVK_f, ↓P.tupVK_eq, P.rng1K_eq, ↓P.tup1K_eq, ↓P.str1K_eq, ↓P.intK_eq, P.strsK_eq, P.v_sub, P.v_lt, P.v_le, P.v_gt, P.v_ge, ↓P.v_mul, ↓P.v_fdiv, ↓P.v_mod, P.v_pow, P.v_addI, P.v_addT, P.v_addL, P.v_eqI, P.v_neI, P.v_eqS, P.v_neS, P.v_isN, P.v_notN, ↓P.v_ixT, ↓P.v_ixL, ↓P.v_ixF, P.ixCK_l, P.ixCK_d, ↓P.v_ixC, ↓P.v_ixD, P.v_lenT, P.v_lenL, P.v_lenF, P.v_int, P.v_min2, P.v_max2, P.v_tupL, ↓P.w_callM, ↓P.w_callWN, ↓P.w_makeM, ↓P.w_makeN, ↓P.w_makeWN, ↓P.w_fldM, ↓P.v_fld, P.insK_eq, ↓P.v_fldC, ↓P.w_frM, P.v_frV, ↓P.v_frC, ↓P.w_bmC, ↓P.w_itSeqM, ↓P.w_itTupM, ↓P.w_rng1M, ↓P.w_subG, ↓P.w_setO, ↓P.v_append, ↓P.v_popAt, ↓P.w_lcN, ↓P.w_sortSetM, ↓P.w_body, ↓P.clsCK_eq, ↓P.clsK_v, ↓P.clsK_c, ↓P.w_callWn, ↓P.w_methM, ↓P.w_methW, ↓P.nonK_eq, ↓P.w_makeW, ↓P.insPK_eq, ↓P.s_setfS, ↓P.v_isi, P.tnE_v, P.tnP_non, P.tnP_bl, P.tnP_int, P.tnP_str, P.tnP_tup, P.tnP_lst, P.tnP_ins, ↓P.w_enumM, ↓P.w_starM, P.seqE_t, P.seqE_l, P.lstE_l, P.lstE_f, ↓P.w_nxM, ↓P.w_nxT, ↓P.w_propN, ↓P.w_gIxM, ↓P.w_slM, ↓P.w_noPM, ↓P.w_partM, P.v_slT, P.v_slL, P.v_frlL, ↓P.w_revM, P.v_all, P.v_any, P.blsOf_map, P.v_in2, P.v_notIn2, P.v_eq2, P.v_ne2, ↓P.w_starC, P.isB_NoneType_int, P.isB_NoneType_bool, P.isB_NoneType_str, P.isB_NoneType_tuple, P.isB_NoneType_list, P.isB_NoneType_dict, P.isB_int_int, P.isB_int_bool, P.isB_int_str, P.isB_int_tuple, P.isB_int_list, P.isB_int_dict, P.isB_bool_int, P.isB_bool_bool, P.isB_bool_str, P.isB_bool_tuple, P.isB_bool_list, P.isB_bool_dict, P.isB_str_int, P.isB_str_bool, P.isB_str_str, P.isB_str_tuple, P.isB_str_list, P.isB_str_dict, P.isB_tuple_int, P.isB_tuple_bool, P.isB_tuple_str, P.isB_tuple_tuple, P.isB_tuple_list, P.isB_tuple_dict, P.isB_list_int, P.isB_list_bool, P.isB_list_str, P.isB_list_tuple, P.isB_list_list, P.isB_list_dict, P.isB_dict_int, P.isB_dict_bool, P.isB_dict_str, P.isB_dict_tuple, P.isB_dict_list, P.isB_dict_dict, P.valsE_nil, P.valsE_v, P.valsE_c, P.valsE_n, ↓P.valK_eq, ↓P.w_scope, P.startE_eq, ↓P.turnI_nx, ↓P.turnI_ct, ↓P.turnI_bk, ↓P.turnI_rt, ↓P.turnI_exc, ↓P.w_lc0, ↓P.w_lc1, P.ofString_inj, P.eqB_int, P.eqB_str, P.wipeR_nil, P.wipeR_cons, P.v_lenS, P.v_lenC, P.strVK_eq, ↓P.w_itStrM, P.dctE_d, P.dctE_t, P.dctE_l, P.dctE_f, P.v_listT, P.v_listL, P.v_listD, P.v_sortD, P.v_sortL, P.v_dictL, P.v_dictD, P.dzK_eq, ↓P.w_dictZip, P.strsOf_mapS, ↓P.w_tupIxM, ↓P.w_ownAdd, ↓P.w_dnew, ↓P.w_disp, P.dispK_1, P.keyP_str, P.v_orD, ↓P.w_sortSetTM, ↓P.w_lc2, P.strsK_app, P.rgK_eq, ↓P.w_rgList, T.fc_acts_Rule, T.fc_asked_rules_Run, T.fc_asks_Rule, T.fc_depth_Stack, T.fc_mark_Run, T.fc_names_Stack, T.fc_parts_Stack, T.fc_steps_Stack, T.fc_told_Run, T.ib_Rule, T.io_Rule_Rule, T.io_Rule_Run, T.io_Rule_Stack, T.iy_Rule_int, T.iy_Rule_bool, T.iy_Rule_str, T.iy_Rule_tuple, T.iy_Rule_list, T.iy_Rule_dict, T.ib_Run, T.io_Run_Rule, T.io_Run_Run, T.io_Run_Stack, T.iy_Run_int, T.iy_Run_bool, T.iy_Run_str, T.iy_Run_tuple, T.iy_Run_list, T.iy_Run_dict, T.ib_Stack, T.io_Stack_Rule, T.io_Stack_Run, T.io_Stack_Stack, T.iy_Stack_int, T.iy_Stack_bool, T.iy_Stack_str, T.iy_Stack_tuple, T.iy_Stack_list, T.iy_Stack_dict, T.pn_Rule_0, T.pv_Rule_0, T.lk_Rule_1_0, T.pn_Rule_1_0, T.pv_Rule_1_0, T.pn_Rule_1, T.pv_Rule_1, T.lk_Rule_2_0, T.pn_Rule_2_0, T.pv_Rule_2_0, T.lk_Rule_2_1, T.pn_Rule_2_1, T.pv_Rule_2_1, T.nc_Rule_action_for_0, T.nc_Rule_action_for_1, T.nc_Rule_action_for_2, T.pn_Run_0, T.pv_Run_0, T.lk_Run_1_0, T.pn_Run_1_0, T.pv_Run_1_0, T.pn_Run_1, T.pv_Run_1, T.lk_Run_2_0, T.pn_Run_2_0, T.pv_Run_2_0, T.lk_Run_2_1, T.pn_Run_2_1, T.pv_Run_2_1, T.pn_Run_2, T.pv_Run_2, T.lk_Run_3_0, T.pn_Run_3_0, T.pv_Run_3_0, T.lk_Run_3_1, T.pn_Run_3_1, T.pv_Run_3_1, T.lk_Run_3_2, T.pn_Run_3_2, T.pv_Run_3_2, T.nc_Run_ended_0, T.nc_Run_ended_1, T.nc_Run_ended_2, T.nc_Run_ended_3, T.nc_Run_outcome_0, T.nc_Run_outcome_1, T.nc_Run_outcome_2, T.nc_Run_outcome_3, T.pn_Stack_0, T.pv_Stack_0, T.lk_Stack_1_0, T.pn_Stack_1_0, T.pv_Stack_1_0, T.pn_Stack_1, T.pv_Stack_1, T.lk_Stack_2_0, T.pn_Stack_2_0, T.pv_Stack_2_0, T.lk_Stack_2_1, T.pn_Stack_2_1, T.pv_Stack_2_1, T.pn_Stack_2, T.pv_Stack_2, T.lk_Stack_3_0, T.pn_Stack_3_0, T.pv_Stack_3_0, T.lk_Stack_3_1, T.pn_Stack_3_1, T.pv_Stack_3_1, T.lk_Stack_3_2, T.pn_Stack_3_2, T.pv_Stack_3_2, T.pn_Stack_3, T.pv_Stack_3, T.lk_Stack_4_0, T.pn_Stack_4_0, T.pv_Stack_4_0, T.lk_Stack_4_1, T.pn_Stack_4_1, T.pv_Stack_4_1, T.lk_Stack_4_2, T.pn_Stack_4_2, T.pv_Stack_4_2, T.lk_Stack_4_3, T.pn_Stack_4_3, T.pv_Stack_4_3, T.nc_Stack___add___0, T.nc_Stack___add___1, T.nc_Stack___add___2, T.nc_Stack___add___3, T.nc_Stack___add___4, T.in_ok, T.in_bad, T.eq_reset, T.eq_die, T.eq_done, T.eq_none, T.eq_good, T.in_letter, T.tn_rule, eq_self, decide_true, decide_false, String.reduceEq, String.reduceNe, Bool.not_eq_eq_eq_not, List.length_map, List.map_cons, List.map_nil, List.replicate_succ, List.replicate_zero, decide_eq_true_eq, decide_eq_false_iff_not, Bool.not_eq_true', Bool.not_eq_false', Bool.not_true, Bool.not_false, if_true, if_false, List.getElem?_cons_zero, List.getElem?_cons_succ, List.set_cons_zero, List.set_cons_succ, List.cons_append, List.nil_append, List.length_cons, List.length_nil, and_true, true_and, ↓reduceIte, reduceCtorEq, Int.reduceLT, Int.reduceLE, Int.reduceEq, Int.reduceNe, Int.reduceAdd, Int.reduceSub, Int.reduceMul, Int.reduceDiv, Int.reduceMod, Int.reducePow, Int.reduceNeg, Int.reduceToNat, P.natAbs10, Nat.reduceAdd, Nat.reduceSub, Nat.reduceMul, Nat.reduceLT, Nat.reduceLeDiff, Nat.reduceEqDiff, Nat.reducePow, or_true, true_or, and_self, not_true_eq_false, not_false_eq_true, Bool.false_eq_true, Bool.true_eq_false, $ls,*])
mutual
theorem runE_congr {A B : Str → Res} : ∀ (e : Ent), (∀ x ∈ flat1 e, A x.1 = B x.1) → ∀ (num : Nat) (m b : Mark), runE A e num m b = runE B e num m b
  | .rule m t, h, num, mk, b => by rw [runE, runE, h (m, t) (by rw [flat1]; exact List.mem_singleton.mpr rfl)]
  | .sub es, h, num, mk, b => by rw [runE, runE]; exact runL_congr es (fun x hx => h x (by rw [flat1]; exact hx)) 0 num mk mk
theorem runL_congr {A B : Str → Res} : ∀ (es : List Ent), (∀ x ∈ flat es, A x.1 = B x.1) → ∀ (k num : Nat) (m b : Mark), runL A es k num m b = runL B es k num m b
  | [], _, k, num, m, b => by rw [runL, runL]
  | e :: r, h, k + 1, num, m, b => by
    rw [runL, runL]
    exact runL_congr r (fun x hx => h x (by rw [flat_cons]; exact List.mem_append_right _ hx)) k _ m b
  | .rule m t :: r, h, 0, num, mk, b => by
    have e : A m = B m := h (m, t) (by rw [flat_cons, flat1]; exact List.mem_append_left _ (List.mem_singleton.mpr rfl))
    rw [runL_rule, runL_rule, e]
    rw [runL_congr r (fun x hx => h x (by rw [flat_cons]; exact List.mem_append_right _ hx)) _ _ _ b]
  | .sub es :: r, h, 0, num, mk, b => by
    have e := runL_congr es (fun x hx => h x (by rw [flat_cons, flat1]; exact List.mem_append_left _ hx)) 0 num mk mk
    rw [runL_sub, runL_sub, e]
    rw [runL_congr r (fun x hx => h x (by rw [flat_cons]; exact List.mem_append_right _ hx)) _ _ _ b]
end
theorem isIn_congr {A B : Str → Res} {es : List Ent} (h : ∀ x ∈ flat es, A x.1 = B x.1) : isIn A es = isIn B es := by
  unfold isIn M.run
  rw [runL_congr es h]
theorem zip_fst : ∀ {N : List Str} {t : List Res}, N.length = t.length → ansN (N.zip t) = N
  | [], [], _ => rfl
  | [], _ :: _, h => by simp at h
  | _ :: _, [], h => by simp at h
  | a :: N, b :: t, h => by show a :: ansN (N.zip t) = _; rw [zip_fst (by simpa using h)]
theorem allA_ok {N : List Str} (hN : N.Nodup) {a : Ans} (h : a ∈ allA N) : ansN a = N := by
  obtain ⟨t, ht, rfl⟩ := List.mem_map.mp h
  exact zip_fst (allT_len _ t ht).symm
theorem clean_ints (l : List Nat) : pclean (.lst (intsP l)) = true ∧ pdeep (.lst (intsP l)) ≤ 64 := by
  have h : pcleanA (intsP l) = true ∧ pdeepA (intsP l) = 0 := by
    induction l with
    | nil => exact ⟨rfl, rfl⟩
    | cons a r ih => exact ⟨by show (pclean _ && pcleanA (intsP r)) = true; rw [ih.1]; rfl, by show max (pdeep _) (pdeepA (intsP r)) = 0; rw [ih.2]; rfl⟩
  exact ⟨by show pcleanA _ = true; exact h.1, by show pdeepA _ + 1 ≤ 64; rw [h.2]; omega⟩
theorem clean_blame (m : Mark) : pclean (blame m) = true ∧ pdeep (blame m) ≤ 64 := by cases m <;> exact ⟨rfl, Nat.zero_le _⟩
theorem sortS_len (l : List Str) : (sortS l).length = l.length := (sortS_perm l).length_eq
/-- the same answers in another order -/
def ansR (a : Ans) : Ans := (sortS (ansN a)).reverse.map fun m => (m, a.get m)
theorem ansR_N (a : Ans) : ansN (ansR a) = (sortS (ansN a)).reverse := by
  unfold ansR ansN
  rw [List.map_map]
  exact List.map_id _
theorem ansR_ok {a : Ans} {N : List Str} (h : AnsOk a N) : AnsOk (ansR a) N := by
  refine ⟨?_, fun x => ?_⟩
  · rw [ansR_N]
    exact (List.reverse_perm _).nodup_iff.mpr ((sortS_perm _).nodup_iff.mpr h.nd)
  · rw [ansR_N, List.mem_reverse, (sortS_perm _).mem_iff, h.mem]
theorem ansR_get {a : Ans} {N : List Str} (h : AnsOk a N) {m : Str} (hm : m ∈ ansN a) : (ansR a).get m = a.get m := by
  have : (m, a.get m) ∈ ansR a := List.mem_map.mpr ⟨m, by rw [List.mem_reverse, (sortS_perm _).mem_iff]; exact hm, rfl⟩
  exact get_of_mem (ansR_ok h).nd this
theorem pairs_map (f : Str → PV) (l : List Str) : pairsOf (l.map fun m => PV.tup [.str m, f m]) = some (l.map Sum.inr, l.map f) := by
  induction l with
  | nil => rfl
  | cons a r ih => simp [pairsOf, keyP, ih]
theorem neS_self {s : Str} : eqB (.str s) (.str s) = some true := by rw [eqB_str]; simp
end T


set_option Elab.async false
set_option linter.all false
set_option maxRecDepth 100000
set_option maxHeartbeats 4000000
set_option pp.maxSteps 250
namespace T
open PySem PySem.Spec L2 G P M
local macro_rules | `(tactic| simp_arith [$ls,*]) => `(tactic| simp -failIfUnchanged -dsimp only [P.evK_eq, P.optK_some, ↓P.w_ok, ↓P.w_exc, ↓P.w_no, ↓P.w_bind, ↓P.s_nx, ↓P.s_rt, ↓P.s_bk, ↓P.s_ct, ↓P.s_exc, ↓P.s_no, ↓P.s_stm, ↓P.xS_eq, ↓P.s_seqm, ↓P.s_turnm, ↓P.w_fin, ↓P.seqK_nx, ↓P.seqK_rt, ↓P.seqK_bk, ↓P.seqK_ct, ↓P.seqK_exc, ↓P.turnK_nx, ↓P.turnK_ct, ↓P.turnK_bk, ↓P.turnK_rt, ↓P.turnK_exc, ↓P.finK_nx, ↓P.finK_rt, ↓P.finK_exc, ↓P.w_var0, ↓P.upd0, ↓P.w_var1, ↓P.upd1, ↓P.w_var2, ↓P.upd2, ↓P.w_var3, ↓P.upd3, ↓P.w_var4, ↓P.upd4, ↓P.w_var5, ↓P.upd5, ↓P.w_var6, ↓P.upd6, ↓P.w_var7, ↓P.upd7, ↓P.w_var8, ↓P.upd8, ↓P.w_var9, ↓P.upd9, ↓P.w_var10, ↓P.upd10, ↓P.w_var11, ↓P.upd11, ↓P.w_var12, ↓P.upd12, ↓P.w_var13, ↓P.upd13, ↓P.w_var14, ↓P.upd14, ↓P.w_var15, ↓P.upd15, ↓P.w_var16, ↓P.upd16, ↓P.w_var17, ↓P.upd17, ↓P.w_var18, ↓P.upd18, ↓P.w_var19, ↓P.upd19, ↓P.w_var20, ↓P.upd20, ↓P.w_var21, ↓P.upd21, ↓P.w_var22, ↓P.upd22, ↓P.w_var23, ↓P.upd23, ↓P.w_var24, ↓P.upd24, ↓P.w_var25, ↓P.upd25, P.at0, P.ixN0, P.at1, P.ixN1, P.at2, P.ixN2, P.at3, P.ixN3, P.at4, P.ixN4, P.at5, P.ixN5, P.at6, P.ixN6, P.at7, P.ixN7, P.at8, P.ixN8, P.at9, P.ixN9, P.at10, P.ixN10, P.at11, P.ixN11, P.at12, P.ixN12, ↓P.w_cM, ↓P.w_opM, ↓P.w_unM, ↓P.w_blE, ↓P.w_andVM, ↓P.w_orVM, ↓P.w_notVM, ↓P.w_ifM, ↓P.w_chainM, ↓P.w_nilM, ↓P.w_consM, P.sizeL, ↓P.vals0, ↓P.vals1, ↓P.vals2, ↓P.vals3, ↓P.vals4, ↓P.vals5, ↓P.vals6, ↓P.vals7, ↓P.vals8, ↓P.vals9, ↓P.vals10, ↓P.vals11, ↓P.vals12, ↓P.w_tupM, ↓P.w_lstM, ↓P.w_lstC, ↓P.w_cbM, ↓P.w_tstM, ↓P.w_tandM, ↓P.w_torM, ↓P.w_tnotM, ↓P.w_tyesM, ↓P.s_nxS, ↓P.s_bkS, ↓P.s_ctS, ↓P.s_retN, ↓P.s_noS, ↓P.s_seqS, ↓P.s_retS, ↓P.s_dropS, ↓P.s_ifS, ↓P.s_setS, ↓P.s_asgS, ↓P.w_nameG, ↓P.w_nilG, ↓P.w_consG, ↓P.w_tupG1, ↓P.w_tupG2, ↓P.w_tupG3, ↓P.w_tupG4, ↓P.parK_eq, ↓P.par3K_eq, ↓P.s_parS, ↓P.s_par3S, ↓P.augK_eq, ↓P.s_aug0, ↓P.s_aug1, ↓P.s_aug2, ↓P.s_aug3, ↓P.s_aug4, ↓P.s_aug5, ↓P.s_aug6, ↓P.s_aug7, ↓P.s_aug8, ↓P.s_aug9, ↓P.s_aug10, ↓P.s_aug11, ↓P.s_aug12, ↓P.s_aug13, ↓P.s_aug14, ↓P.s_aug15, ↓P.s_loop0, ↓P.s_loop1, ↓P.s_forS, ↓P.cellK_eq, P.lstCK_eq, P.lstK_eq, ↓P.seqVK_l, ↓P.seqVK_f, ↓P.tupVK_eq, P.rng1K_eq, ↓P.tup1K_eq, ↓P.str1K_eq, ↓P.intK_eq, P.strsK_eq, P.v_sub, P.v_lt, P.v_le, P.v_gt, P.v_ge, ↓P.v_mul, ↓P.v_fdiv, ↓P.v_mod, P.v_pow, P.v_addI, P.v_addT, P.v_addL, P.v_eqI, P.v_neI, P.v_eqS, P.v_neS, P.v_isN, P.v_notN, ↓P.v_ixT, ↓P.v_ixL, ↓P.v_ixF, P.ixCK_l, P.ixCK_d, ↓P.v_ixC, ↓P.v_ixD, P.v_lenT, P.v_lenL, P.v_lenF, P.v_int, P.v_min2, P.v_max2, P.v_tupL, ↓P.w_callM, ↓P.w_callWN, ↓P.w_makeM, ↓P.w_makeN, ↓P.w_makeWN, ↓P.w_fldM, ↓P.v_fld, P.insK_eq, ↓P.v_fldC, ↓P.w_frM, P.v_frV, ↓P.v_frC, ↓P.w_bmC, ↓P.w_itSeqM, ↓P.w_itTupM, ↓P.w_rng1M, ↓P.w_subG, ↓P.w_setO, ↓P.v_append, ↓P.v_popAt, ↓P.w_lcN, ↓P.w_sortSetM, ↓P.w_body, ↓P.clsCK_eq, ↓P.clsK_v, ↓P.clsK_c, ↓P.w_callWn, ↓P.w_methM, ↓P.w_methW, ↓P.nonK_eq, ↓P.w_makeW, ↓P.insPK_eq, ↓P.s_setfS, ↓P.v_isi, P.tnE_v, P.tnP_non, P.tnP_bl, P.tnP_int, P.tnP_str, P.tnP_tup, P.tnP_lst, P.tnP_ins, ↓P.w_enumM, ↓P.w_starM, P.seqE_t, P.seqE_l, P.lstE_l, P.lstE_f, ↓P.w_nxM, ↓P.w_nxT, ↓P.w_propN, ↓P.w_gIxM, ↓P.w_slM, ↓P.w_noPM, ↓P.w_partM, P.v_slT, P.v_slL, P.v_frlL, ↓P.w_revM, P.v_all, P.v_any, P.blsOf_map, P.v_in2, P.v_notIn2, P.v_eq2, P.v_ne2, ↓P.w_starC, P.isB_NoneType_int, P.isB_NoneType_bool, P.isB_NoneType_str, P.isB_NoneType_tuple, P.isB_NoneType_list, P.isB_NoneType_dict, P.isB_int_int, P.isB_int_bool, P.isB_int_str, P.isB_int_tuple, P.isB_int_list, P.isB_int_dict, P.isB_bool_int, P.isB_bool_bool, P.isB_bool_str, P.isB_bool_tuple, P.isB_bool_list, P.isB_bool_dict, P.isB_str_int, P.isB_str_bool, P.isB_str_str, P.isB_str_tuple, P.isB_str_list, P.isB_str_dict, P.isB_tuple_int, P.isB_tuple_bool, P.isB_tuple_str, P.isB_tuple_tuple, P.isB_tuple_list, P.isB_tuple_dict, P.isB_list_int, P.isB_list_bool, P.isB_list_str, P.isB_list_tuple, P.isB_list_list, P.isB_list_dict, P.isB_dict_int, P.isB_dict_bool, P.isB_dict_str, P.isB_dict_tuple, P.isB_dict_list, P.isB_dict_dict, P.valsE_nil, P.valsE_v, P.valsE_c, P.valsE_n, ↓P.valK_eq, ↓P.w_scope, P.startE_eq, ↓P.turnI_nx, ↓P.turnI_ct, ↓P.turnI_bk, ↓P.turnI_rt, ↓P.turnI_exc, ↓P.w_lc0, ↓P.w_lc1, P.ofString_inj, P.eqB_int, P.eqB_str, P.wipeR_nil, P.wipeR_cons, P.v_lenS, P.v_lenC, P.strVK_eq, ↓P.w_itStrM, P.dctE_d, P.dctE_t, P.dctE_l, P.dctE_f, P.v_listT, P.v_listL, P.v_listD, P.v_sortD, P.v_sortL, P.v_dictL, P.v_dictD, P.dzK_eq, ↓P.w_dictZip, P.strsOf_mapS, ↓P.w_tupIxM, ↓P.w_ownAdd, ↓P.w_dnew, ↓P.w_disp, P.dispK_1, P.keyP_str, P.v_orD, ↓P.w_sortSetTM, ↓P.w_lc2, P.strsK_app, P.rgK_eq, ↓P.w_rgList, T.fc_acts_Rule, T.fc_asked_rules_Run, T.fc_asks_Rule, T.fc_depth_Stack, T.fc_mark_Run, T.fc_names_Stack, T.fc_parts_Stack, T.fc_steps_Stack, T.fc_told_Run, T.ib_Rule, T.io_Rule_Rule, T.io_Rule_Run, T.io_Rule_Stack, T.iy_Rule_int, T.iy_Rule_bool, T.iy_Rule_str, T.iy_Rule_tuple, T.iy_Rule_list, T.iy_Rule_dict, T.ib_Run, T.io_Run_Rule, T.io_Run_Run, T.io_Run_Stack, T.iy_Run_int, T.iy_Run_bool, T.iy_Run_str, T.iy_Run_tuple, T.iy_Run_list, T.iy_Run_dict, T.ib_Stack, T.io_Stack_Rule, T.io_Stack_Run, T.io_Stack_Stack, T.iy_Stack_int, T.iy_Stack_bool, T.iy_Stack_str, T.iy_Stack_tuple, T.iy_Stack_list, T.iy_Stack_dict, T.pn_Rule_0, T.pv_Rule_0, T.lk_Rule_1_0, T.pn_Rule_1_0, T.pv_Rule_1_0, T.pn_Rule_1, T.pv_Rule_1, T.lk_Rule_2_0, T.pn_Rule_2_0, T.pv_Rule_2_0, T.lk_Rule_2_1, T.pn_Rule_2_1, T.pv_Rule_2_1, T.nc_Rule_action_for_0, T.nc_Rule_action_for_1, T.nc_Rule_action_for_2, T.pn_Run_0, T.pv_Run_0, T.lk_Run_1_0, T.pn_Run_1_0, T.pv_Run_1_0, T.pn_Run_1, T.pv_Run_1, T.lk_Run_2_0, T.pn_Run_2_0, T.pv_Run_2_0, T.lk_Run_2_1, T.pn_Run_2_1, T.pv_Run_2_1, T.pn_Run_2, T.pv_Run_2, T.lk_Run_3_0, T.pn_Run_3_0, T.pv_Run_3_0, T.lk_Run_3_1, T.pn_Run_3_1, T.pv_Run_3_1, T.lk_Run_3_2, T.pn_Run_3_2, T.pv_Run_3_2, T.nc_Run_ended_0, T.nc_Run_ended_1, T.nc_Run_ended_2, T.nc_Run_ended_3, T.nc_Run_outcome_0, T.nc_Run_outcome_1, T.nc_Run_outcome_2, T.nc_Run_outcome_3, T.pn_Stack_0, T.pv_Stack_0, T.lk_Stack_1_0, T.pn_Stack_1_0, T.pv_Stack_1_0, T.pn_Stack_1, T.pv_Stack_1, T.lk_Stack_2_0, T.pn_Stack_2_0, T.pv_Stack_2_0, T.lk_Stack_2_1, T.pn_Stack_2_1, T.pv_Stack_2_1, T.pn_Stack_2, T.pv_Stack_2, T.lk_Stack_3_0, T.pn_Stack_3_0, T.pv_Stack_3_0, T.lk_Stack_3_1, T.pn_Stack_3_1, T.pv_Stack_3_1, T.lk_Stack_3_2, T.pn_Stack_3_2, T.pv_Stack_3_2, T.pn_Stack_3, T.pv_Stack_3, T.lk_Stack_4_0, T.pn_Stack_4_0, T.pv_Stack_4_0, T.lk_Stack_4_1, T.pn_Stack_4_1, T.pv_Stack_4_1, T.lk_Stack_4_2, T.pn_Stack_4_2, T.pv_Stack_4_2, T.lk_Stack_4_3, T.pn_Stack_4_3, T.pv_Stack_4_3, T.nc_Stack___add___0, T.nc_Stack___add___1, T.nc_Stack___add___2, T.nc_Stack___add___3, T.nc_Stack___add___4, T.in_ok, T.in_bad, T.eq_reset, T.eq_die, T.eq_done, T.eq_none, T.eq_good, T.in_letter, T.tn_rule, eq_self, decide_true, decide_false, String.reduceEq, String.reduceNe, Bool.not_eq_eq_eq_not, List.length_map, List.map_cons, List.map_nil, List.replicate_succ, List.replicate_zero, decide_eq_true_eq, decide_eq_false_iff_not, Bool.not_eq_true', Bool.not_eq_false', Bool.not_true, Bool.not_false, if_true, if_false, List.getElem?_cons_zero, List.getElem?_cons_succ, List.set_cons_zero, List.set_cons_succ, List.cons_append, List.nil_append, List.length_cons, List.length_nil, and_true, true_and, ↓reduceIte, reduceCtorEq, Int.reduceLT, Int.reduceLE, Int.reduceEq, Int.reduceNe, Int.reduceAdd, Int.reduceSub, Int.reduceMul, Int.reduceDiv, Int.reduceMod, Int.reducePow, Int.reduceNeg, Int.reduceToNat, P.natAbs10, Nat.reduceAdd, Nat.reduceSub, Nat.reduceMul, Nat.reduceLT, Nat.reduceLeDiff, Nat.reduceEqDiff, Nat.reducePow, or_true, true_or, and_self, not_true_eq_false, not_false_eq_true, Bool.false_eq_true, Bool.true_eq_false, $ls,*])
/-! ### all answers, both outcomes -/
def dF (N : List Str) (i : Nat) (t : List Res) : PV := .dct ((N.take i).map Sum.inr) (t.map Res.pv)
theorem all_answers_sp {n : Nat} (hn : 1 ≤ n) (N : List Str) (hN : N.length ≤ 6) (hnd : N.Nodup) {μ : Sto} {Q : EV → Sto → Prop} {X : XQ} (q : Q (.v (.lst ((allA N).map ansPV))) μ) :
    WpE (callS (call n f_all_answers) 1 [.v (.lst (N.map PV.str))] μ) Q X := by
  refine call_v (ps := [.lst (N.map PV.str)]) rfl rfl ?_
  rw [call_at _ (by omega), t_all_answers]
  simp_arith [b_all_answers]
  have p6 : ∀ k, k ≤ 6 → 4 ^ k ≤ 4096 := fun k hk => Nat.le_trans (Nat.pow_le_pow_right (by omega) hk) (by decide)
  rw [List.map_map]
  refine loop_nat (fun i ρ μ => ∃ x2, ρ = [some (.v (.lst (N.map PV.str))), some (.v (.lst ((allT i).map (dF N i)))), x2, none, none] ∧ μ = List.replicate i .dead) ?_ ?_ ⟨none, rfl, rfl⟩
  · rintro i x ρ μ hx ⟨x2, rfl, rfl⟩
    have hx' : ∃ m, N[i]? = some m ∧ x = .v (.str m) := by
      rw [List.getElem?_map] at hx
      cases h : N[i]? with
      | none => rw [h] at hx; cases hx
      | some m => rw [h] at hx; exact ⟨m, rfl, (Option.some.inj hx).symm⟩
    obtain ⟨m, hm, rfl⟩ := hx'
    have hi : i < N.length := (List.getElem?_eq_some_iff.mp hm).1
    have c1 := allT_count i
    have c2 := p6 i (by omega)
    have c3 := allT_count (i + 1)
    have c4 := p6 (i + 1) (by omega)
    have ht1 : N.take (i + 1) = N.take i ++ [m] := by rw [List.take_add_one, hm]; rfl
    have hni : m ∉ N.take i := by
      have := hnd.sublist (List.take_sublist (i + 1) N)
      rw [ht1, List.nodup_append] at this
      exact fun h => this.2.2 _ h _ List.mem_cons_self rfl
    have hmg : ∀ vs : List PV, ∀ v, mgD ((N.take i).map Sum.inr) vs [.inr m] [v] = ((N.take (i + 1)).map Sum.inr, vs ++ [v]) := fun vs v => by
      rw [mg_new (by rw [hasK_str, decide_eq_false hni]), ht1, List.map_append]; rfl
    simp_arith [b_all_answers_1]
    rw [List.map_map]
    refine lc2_map (EV.v ∘ dF N i) (EV.v ∘ Res.pv) (fun _ => resL) (fun t r => dF N (i + 1) (t ++ [r])) (allT i) [] (fun t ht acc => ?_) ?_ ?_
    · simp_arith [Function.comp, g_RESULTS_eq]
      refine ⟨rfl, fun r hr acc => ?_⟩
      simp_arith [dF]
      rw [hmg, List.length_take, List.map_append]
      exact ⟨by omega, rfl⟩
    · have : (allT i).length * 4 ≤ 4096 := by rw [Nat.pow_succ] at c4; omega
      have hf : ∀ l : List (List Res), (l.flatMap fun _ => resL).length = l.length * 4 := fun l => by
        induction l with
        | nil => rfl
        | cons a r ih => rw [List.flatMap_cons, List.length_append, ih, List.length_cons]; show 4 + _ = _; omega
      rw [hf, sizeL]
      simp only [List.length_nil]
      omega
    · rw [v_frEnd]
      simp_arith []
      have e1 : ((allT i).flatMap fun a => resL.map fun r => dF N (i + 1) (a ++ [r])) = (allT (i + 1)).map (dF N (i + 1)) := by
        show _ = ((allT i).flatMap extR).map _
        rw [List.map_flatMap]
        simp only [extR, List.map_map]
        rfl
      rw [e1, ← List.replicate_succ', List.replicate_succ]
      exact ⟨_, rfl, rfl⟩
  · rintro ρ μ ⟨x2, rfl, rfl⟩
    rw [List.length_map]
    simp_arith []
    refine ⟨_, rfl, ?_⟩
    have e2 : (allT N.length).map (dF N N.length) = (allA N).map ansPV := by
      unfold allA
      rw [List.map_map]
      refine List.map_congr_left fun t ht => ?_
      show _ = ansPV (N.zip t)
      rw [ansPV_zip (allT_len _ t ht).symm]
      unfold dF
      rw [List.take_length]
    rw [e2]
    exact q
/-! ### both outcomes -/
theorem tells_of {a : Ans} {es : List Ent} (hn : (ansN a).Nodup) (h : ∀ x ∈ flat es, x.1 ∈ ansN a) : Tells (ansPV a) a.get es := ⟨_, _, rfl, fun x hx => getK_ans hn (h x hx)⟩
def bothL (es xs : List Ent) : List Str := sortU (namesOf es ++ namesOf xs)
theorem mem_both1 {es xs : List Ent} {x : Str × Tb} (h : x ∈ flat es) : x.1 ∈ bothL es xs := mem_sortU.mpr (List.mem_append_left _ (mem_sortU.mpr (List.mem_map.mpr ⟨x, h, rfl⟩)))
theorem mem_both2 {es xs : List Ent} {x : Str × Tb} (h : x ∈ flat xs) : x.1 ∈ bothL es xs := mem_sortU.mpr (List.mem_append_right _ (mem_sortU.mpr (List.mem_map.mpr ⟨x, h, rfl⟩)))
def bothP (es xs : List Ent) (a : Ans) : PV := .tup [ansPV a, .str (outS (isIn a.get es)), .str (outS (isIn a.get xs))]
theorem both_outcomes_sp {n : Nat} (hn : 8 ≤ n) (es xs : List Ent) (h1 : StOk es) (h2 : StOk xs) (hU : (bothL es xs).length ≤ 6) {μ : Sto} {Q : EV → Sto → Prop} {X : XQ} (q : Q (.v (.lst ((allA (bothL es xs)).map (bothP es xs)))) μ) :
    WpE (callS (call n f_both_outcomes) 2 [.v (stPV es), .v (stPV xs)] μ) Q X := by
  refine call_v (ps := [stPV es, stPV xs]) rfl rfl ?_
  rw [call_at _ (by omega), t_both_outcomes]
  have l1 := h1.lim.names
  have l2 := h2.lim.names
  have hU' : ¬ ((6 : Int) < ((sortU (namesOf es ++ namesOf xs)).length : Nat)) := by
    have : (sortU (namesOf es ++ namesOf xs)).length ≤ 6 := hU
    omega
  simp_arith [b_both_outcomes, hU']
  rw [List.length_append]
  refine ⟨by omega, by omega, ?_⟩
  refine all_answers_sp (by omega) (bothL es xs) hU (nodup_sortU _) ?_
  simp_arith []
  rw [List.map_map]
  have c1 := allT_count (bothL es xs).length
  have c2 : 4 ^ (bothL es xs).length ≤ 4096 := Nat.le_trans (Nat.pow_le_pow_right (by omega) hU) (by decide)
  refine lc_map (EV.v ∘ ansPV) (bothP es xs) _ (fun a ha => ?_) (by rw [sizeL]; unfold allA; rw [List.length_map]; omega) ?_
  · have haN : ansN a = bothL es xs := allA_ok (nodup_sortU _) ha
    have hnd : (ansN a).Nodup := by rw [haN]; exact nodup_sortU _
    simp_arith [Function.comp]
    refine run_init_sp (n := n - 1) (by omega) a.get _ es h1 (tells_of hnd fun x hx => by rw [haN]; exact mem_both1 hx) ?_
    simp_arith []
    refine run_outcome_sp (by omega) _ _ ?_
    simp_arith [Function.comp]
    refine run_init_sp (by omega) a.get _ xs h2 (tells_of hnd fun x hx => by rw [haN]; exact mem_both2 hx) ?_
    simp_arith []
    refine run_outcome_sp (by omega) _ _ ?_
    simp_arith [Function.comp]
    rfl
  · simp_arith []
    exact ⟨_, rfl, q⟩
def AlikeP (es xs : List Ent) : Prop := ∀ a ∈ allA (bothL es xs), isIn a.get es = isIn a.get xs
theorem first_difference_sp {n : Nat} (hn : 9 ≤ n) (es xs : List Ent) (h1 : StOk es) (h2 : StOk xs) (hU : (bothL es xs).length ≤ 6) {μ : Sto} {Q : EV → Sto → Prop} {X : XQ} (q1 : AlikeP es xs → Q (.v .non) μ) (q2 : ¬ AlikeP es xs → ∀ x y, Q (.v (.tup [x, y])) μ) :
    WpE (callS (call n f_first_difference) 2 [.v (stPV es), .v (stPV xs)] μ) Q X := by
  refine call_v (ps := [stPV es, stPV xs]) rfl rfl ?_
  rw [call_at _ (by omega), t_first_difference]
  simp_arith [b_first_difference]
  refine both_outcomes_sp (by omega) es xs h1 h2 hU ?_
  simp_arith []
  rw [List.map_map]
  refine loop_list (EV.v ∘ bothP es xs) (fun r ρ μ => (∃ l, allA (bothL es xs) = l ++ r ∧ ∀ a ∈ l, isIn a.get es = isIn a.get xs) ∧ ∃ x2 x3 x4, ρ = [some (.v (stPV es)), some (.v (stPV xs)), x2, x3, x4] ∧ μ = []) ?_ ?_ _ _ _ ⟨⟨[], rfl, fun a h => nomatch h⟩, _, _, _, rfl, rfl⟩
  · rintro a r ρ μ ⟨⟨l, hl, ho⟩, x2, x3, x4, rfl, rfl⟩
    simp_arith [Function.comp, b_first_difference_1, bothP]
    by_cases c : isIn a.get es = isIn a.get xs
    · rw [c]
      simp_arith []
      exact ⟨⟨l ++ [a], by rw [hl, List.append_assoc]; rfl, fun b hb => (List.mem_append.mp hb).elim (ho b) fun hb => by rw [List.mem_singleton.mp hb]; exact c⟩, _, _, _, rfl⟩
    · have c' : ¬ outS (isIn a.get es) = outS (isIn a.get xs) := by
        revert c
        cases isIn a.get es <;> cases isIn a.get xs <;> decide +kernel
      simp_arith [c']
      exact ⟨_, rfl, q2 (fun h => c (h a (by rw [hl]; exact List.mem_append_right _ List.mem_cons_self))) _ _⟩
  · rintro ρ μ ⟨⟨l, hl, ho⟩, x2, x3, x4, rfl, rfl⟩
    simp_arith []
    exact ⟨_, rfl, q1 fun a ha => ho a (by rw [hl, List.append_nil] at ha; exact ha)⟩
end T


set_option Elab.async false
set_option linter.all false
set_option maxRecDepth 100000
set_option maxHeartbeats 4000000
set_option pp.maxSteps 250
namespace T
open PySem PySem.Spec L2 G P M
local macro_rules | `(tactic| simp_arith [$ls,*]) => `(tactic| simp -failIfUnchanged -dsimp only [P.evK_eq, P.optK_some, ↓P.w_ok, ↓P.w_exc, ↓P.w_no, ↓P.w_bind, ↓P.s_nx, ↓P.s_rt, ↓P.s_bk, ↓P.s_ct, ↓P.s_exc, ↓P.s_no, ↓P.s_stm, ↓P.xS_eq, ↓P.s_seqm, ↓P.s_turnm, ↓P.w_fin, ↓P.seqK_nx, ↓P.seqK_rt, ↓P.seqK_bk, ↓P.seqK_ct, ↓P.seqK_exc, ↓P.turnK_nx, ↓P.turnK_ct, ↓P.turnK_bk, ↓P.turnK_rt, ↓P.turnK_exc, ↓P.finK_nx, ↓P.finK_rt, ↓P.finK_exc, ↓P.w_var0, ↓P.upd0, ↓P.w_var1, ↓P.upd1, ↓P.w_var2, ↓P.upd2, ↓P.w_var3, ↓P.upd3, ↓P.w_var4, ↓P.upd4, ↓P.w_var5, ↓P.upd5, ↓P.w_var6, ↓P.upd6, ↓P.w_var7, ↓P.upd7, ↓P.w_var8, ↓P.upd8, ↓P.w_var9, ↓P.upd9, ↓P.w_var10, ↓P.upd10, ↓P.w_var11, ↓P.upd11, ↓P.w_var12, ↓P.upd12, ↓P.w_var13, ↓P.upd13, ↓P.w_var14, ↓P.upd14, ↓P.w_var15, ↓P.upd15, ↓P.w_var16, ↓P.upd16, ↓P.w_var17, ↓P.upd17, ↓P.w_var18, ↓P.upd18, ↓P.w_var19, ↓P.upd19, ↓P.w_var20, ↓P.upd20, ↓P.w_var21, ↓P.upd21, ↓P.w_var22, ↓P.upd22, ↓P.w_var23, ↓P.upd23, ↓P.w_var24, ↓P.upd24, ↓P.w_var25, ↓P.upd25, P.at0, P.ixN0, P.at1, P.ixN1, P.at2, P.ixN2, P.at3, P.ixN3, P.at4, P.ixN4, P.at5, P.ixN5, P.at6, P.ixN6, P.at7, P.ixN7, P.at8, P.ixN8, P.at9, P.ixN9, P.at10, P.ixN10, P.at11, P.ixN11, P.at12, P.ixN12, ↓P.w_cM, ↓P.w_opM, ↓P.w_unM, ↓P.w_blE, ↓P.w_andVM, ↓P.w_orVM, ↓P.w_notVM, ↓P.w_ifM, ↓P.w_chainM, ↓P.w_nilM, ↓P.w_consM, P.sizeL, ↓P.vals0, ↓P.vals1, ↓P.vals2, ↓P.vals3, ↓P.vals4, ↓P.vals5, ↓P.vals6, ↓P.vals7, ↓P.vals8, ↓P.vals9, ↓P.vals10, ↓P.vals11, ↓P.vals12, ↓P.w_tupM, ↓P.w_lstM, ↓P.w_lstC, ↓P.w_cbM, ↓P.w_tstM, ↓P.w_tandM, ↓P.w_torM, ↓P.w_tnotM, ↓P.w_tyesM, ↓P.s_nxS, ↓P.s_bkS, ↓P.s_ctS, ↓P.s_retN, ↓P.s_noS, ↓P.s_seqS, ↓P.s_retS, ↓P.s_dropS, ↓P.s_ifS, ↓P.s_setS, ↓P.s_asgS, ↓P.w_nameG, ↓P.w_nilG, ↓P.w_consG, ↓P.w_tupG1, ↓P.w_tupG2, ↓P.w_tupG3, ↓P.w_tupG4, ↓P.parK_eq, ↓P.par3K_eq, ↓P.s_parS, ↓P.s_par3S, ↓P.augK_eq, ↓P.s_aug0, ↓P.s_aug1, ↓P.s_aug2, ↓P.s_aug3, ↓P.s_aug4, ↓P.s_aug5, ↓P.s_aug6, ↓P.s_aug7, ↓P.s_aug8, ↓P.s_aug9, ↓P.s_aug10, ↓P.s_aug11, ↓P.s_aug12, ↓P.s_aug13, ↓P.s_aug14, ↓P.s_aug15, ↓P.s_loop0, ↓P.s_loop1, ↓P.s_forS, ↓P.cellK_eq, P.lstCK_eq, P.lstK_eq, ↓P.seqVK_l, ↓P.seqVK_f, ↓P.tupVK_eq, P.rng1K_eq, ↓P.tup1K_eq, ↓P.str1K_eq, ↓P.intK_eq, P.strsK_eq, P.v_sub, P.v_lt, P.v_le, P.v_gt, P.v_ge, ↓P.v_mul, ↓P.v_fdiv, ↓P.v_mod, P.v_pow, P.v_addI, P.v_addT, P.v_addL, P.v_eqI, P.v_neI, P.v_eqS, P.v_neS, P.v_isN, P.v_notN, ↓P.v_ixT, ↓P.v_ixL, ↓P.v_ixF, P.ixCK_l, P.ixCK_d, ↓P.v_ixC, ↓P.v_ixD, P.v_lenT, P.v_lenL, P.v_lenF, P.v_int, P.v_min2, P.v_max2, P.v_tupL, ↓P.w_callM, ↓P.w_callWN, ↓P.w_makeM, ↓P.w_makeN, ↓P.w_makeWN, ↓P.w_fldM, ↓P.v_fld, P.insK_eq, ↓P.v_fldC, ↓P.w_frM, P.v_frV, ↓P.v_frC, ↓P.w_bmC, ↓P.w_itSeqM, ↓P.w_itTupM, ↓P.w_rng1M, ↓P.w_subG, ↓P.w_setO, ↓P.v_append, ↓P.v_popAt, ↓P.w_lcN, ↓P.w_sortSetM, ↓P.w_body, ↓P.clsCK_eq, ↓P.clsK_v, ↓P.clsK_c, ↓P.w_callWn, ↓P.w_methM, ↓P.w_methW, ↓P.nonK_eq, ↓P.w_makeW, ↓P.insPK_eq, ↓P.s_setfS, ↓P.v_isi, P.tnE_v, P.tnP_non, P.tnP_bl, P.tnP_int, P.tnP_str, P.tnP_tup, P.tnP_lst, P.tnP_ins, ↓P.w_enumM, ↓P.w_starM, P.seqE_t, P.seqE_l, P.lstE_l, P.lstE_f, ↓P.w_nxM, ↓P.w_nxT, ↓P.w_propN, ↓P.w_gIxM, ↓P.w_slM, ↓P.w_noPM, ↓P.w_partM, P.v_slT, P.v_slL, P.v_frlL, ↓P.w_revM, P.v_all, P.v_any, P.blsOf_map, P.v_in2, P.v_notIn2, P.v_eq2, P.v_ne2, ↓P.w_starC, P.isB_NoneType_int, P.isB_NoneType_bool, P.isB_NoneType_str, P.isB_NoneType_tuple, P.isB_NoneType_list, P.isB_NoneType_dict, P.isB_int_int, P.isB_int_bool, P.isB_int_str, P.isB_int_tuple, P.isB_int_list, P.isB_int_dict, P.isB_bool_int, P.isB_bool_bool, P.isB_bool_str, P.isB_bool_tuple, P.isB_bool_list, P.isB_bool_dict, P.isB_str_int, P.isB_str_bool, P.isB_str_str, P.isB_str_tuple, P.isB_str_list, P.isB_str_dict, P.isB_tuple_int, P.isB_tuple_bool, P.isB_tuple_str, P.isB_tuple_tuple, P.isB_tuple_list, P.isB_tuple_dict, P.isB_list_int, P.isB_list_bool, P.isB_list_str, P.isB_list_tuple, P.isB_list_list, P.isB_list_dict, P.isB_dict_int, P.isB_dict_bool, P.isB_dict_str, P.isB_dict_tuple, P.isB_dict_list, P.isB_dict_dict, P.valsE_nil, P.valsE_v, P.valsE_c, P.valsE_n, ↓P.valK_eq, ↓P.w_scope, P.startE_eq, ↓P.turnI_nx, ↓P.turnI_ct, ↓P.turnI_bk, ↓P.turnI_rt, ↓P.turnI_exc, ↓P.w_lc0, ↓P.w_lc1, P.ofString_inj, P.eqB_int, P.eqB_str, P.wipeR_nil, P.wipeR_cons, P.v_lenS, P.v_lenC, P.strVK_eq, ↓P.w_itStrM, P.dctE_d, P.dctE_t, P.dctE_l, P.dctE_f, P.v_listT, P.v_listL, P.v_listD, P.v_sortD, P.v_sortL, P.v_dictL, P.v_dictD, P.dzK_eq, ↓P.w_dictZip, P.strsOf_mapS, ↓P.w_tupIxM, ↓P.w_ownAdd, ↓P.w_dnew, ↓P.w_disp, P.dispK_1, P.keyP_str, P.v_orD, ↓P.w_sortSetTM, ↓P.w_lc2, P.strsK_app, P.rgK_eq, ↓P.w_rgList, T.fc_acts_Rule, T.fc_asked_rules_Run, T.fc_asks_Rule, T.fc_depth_Stack, T.fc_mark_Run, T.fc_names_Stack, T.fc_parts_Stack, T.fc_steps_Stack, T.fc_told_Run, T.ib_Rule, T.io_Rule_Rule, T.io_Rule_Run, T.io_Rule_Stack, T.iy_Rule_int, T.iy_Rule_bool, T.iy_Rule_str, T.iy_Rule_tuple, T.iy_Rule_list, T.iy_Rule_dict, T.ib_Run, T.io_Run_Rule, T.io_Run_Run, T.io_Run_Stack, T.iy_Run_int, T.iy_Run_bool, T.iy_Run_str, T.iy_Run_tuple, T.iy_Run_list, T.iy_Run_dict, T.ib_Stack, T.io_Stack_Rule, T.io_Stack_Run, T.io_Stack_Stack, T.iy_Stack_int, T.iy_Stack_bool, T.iy_Stack_str, T.iy_Stack_tuple, T.iy_Stack_list, T.iy_Stack_dict, T.pn_Rule_0, T.pv_Rule_0, T.lk_Rule_1_0, T.pn_Rule_1_0, T.pv_Rule_1_0, T.pn_Rule_1, T.pv_Rule_1, T.lk_Rule_2_0, T.pn_Rule_2_0, T.pv_Rule_2_0, T.lk_Rule_2_1, T.pn_Rule_2_1, T.pv_Rule_2_1, T.nc_Rule_action_for_0, T.nc_Rule_action_for_1, T.nc_Rule_action_for_2, T.pn_Run_0, T.pv_Run_0, T.lk_Run_1_0, T.pn_Run_1_0, T.pv_Run_1_0, T.pn_Run_1, T.pv_Run_1, T.lk_Run_2_0, T.pn_Run_2_0, T.pv_Run_2_0, T.lk_Run_2_1, T.pn_Run_2_1, T.pv_Run_2_1, T.pn_Run_2, T.pv_Run_2, T.lk_Run_3_0, T.pn_Run_3_0, T.pv_Run_3_0, T.lk_Run_3_1, T.pn_Run_3_1, T.pv_Run_3_1, T.lk_Run_3_2, T.pn_Run_3_2, T.pv_Run_3_2, T.nc_Run_ended_0, T.nc_Run_ended_1, T.nc_Run_ended_2, T.nc_Run_ended_3, T.nc_Run_outcome_0, T.nc_Run_outcome_1, T.nc_Run_outcome_2, T.nc_Run_outcome_3, T.pn_Stack_0, T.pv_Stack_0, T.lk_Stack_1_0, T.pn_Stack_1_0, T.pv_Stack_1_0, T.pn_Stack_1, T.pv_Stack_1, T.lk_Stack_2_0, T.pn_Stack_2_0, T.pv_Stack_2_0, T.lk_Stack_2_1, T.pn_Stack_2_1, T.pv_Stack_2_1, T.pn_Stack_2, T.pv_Stack_2, T.lk_Stack_3_0, T.pn_Stack_3_0, T.pv_Stack_3_0, T.lk_Stack_3_1, T.pn_Stack_3_1, T.pv_Stack_3_1, T.lk_Stack_3_2, T.pn_Stack_3_2, T.pv_Stack_3_2, T.pn_Stack_3, T.pv_Stack_3, T.lk_Stack_4_0, T.pn_Stack_4_0, T.pv_Stack_4_0, T.lk_Stack_4_1, T.pn_Stack_4_1, T.pv_Stack_4_1, T.lk_Stack_4_2, T.pn_Stack_4_2, T.pv_Stack_4_2, T.lk_Stack_4_3, T.pn_Stack_4_3, T.pv_Stack_4_3, T.nc_Stack___add___0, T.nc_Stack___add___1, T.nc_Stack___add___2, T.nc_Stack___add___3, T.nc_Stack___add___4, T.in_ok, T.in_bad, T.eq_reset, T.eq_die, T.eq_done, T.eq_none, T.eq_good, T.in_letter, T.tn_rule, eq_self, decide_true, decide_false, String.reduceEq, String.reduceNe, Bool.not_eq_eq_eq_not, List.length_map, List.map_cons, List.map_nil, List.replicate_succ, List.replicate_zero, decide_eq_true_eq, decide_eq_false_iff_not, Bool.not_eq_true', Bool.not_eq_false', Bool.not_true, Bool.not_false, if_true, if_false, List.getElem?_cons_zero, List.getElem?_cons_succ, List.set_cons_zero, List.set_cons_succ, List.cons_append, List.nil_append, List.length_cons, List.length_nil, and_true, true_and, ↓reduceIte, reduceCtorEq, Int.reduceLT, Int.reduceLE, Int.reduceEq, Int.reduceNe, Int.reduceAdd, Int.reduceSub, Int.reduceMul, Int.reduceDiv, Int.reduceMod, Int.reducePow, Int.reduceNeg, Int.reduceToNat, P.natAbs10, Nat.reduceAdd, Nat.reduceSub, Nat.reduceMul, Nat.reduceLT, Nat.reduceLeDiff, Nat.reduceEqDiff, Nat.reducePow, or_true, true_or, and_self, not_true_eq_false, not_false_eq_true, Bool.false_eq_true, Bool.true_eq_false, $ls,*])
/-! ### entries exchanged -/
theorem flat_perm {es xs : List Ent} (h : es.Perm xs) : (flat es).Perm (flat xs) := by
  induction h with
  | nil => exact .nil
  | cons a _ ih => rw [flat, flat]; exact ih.append_left _
  | swap a b l =>
    rw [flat, flat, flat, flat, ← List.append_assoc, ← List.append_assoc]
    exact List.perm_append_comm.append_right _
  | trans _ _ a b => exact a.trans b
theorem deep_perm {es xs : List Ent} (h : es.Perm xs) : deep es = deep xs := by
  induction h with
  | nil => rfl
  | cons a _ ih => rw [deep, deep, ih]
  | swap a b l => rw [deep, deep, deep, deep]; omega
  | trans _ _ a b => exact a.trans b
theorem goodL_iff {es : List Ent} : GoodL es ↔ ∀ e ∈ es, Good1 e := by
  induction es with
  | nil => exact Iff.intro (fun _ e h => by cases h) (fun _ => trivial)
  | cons a r ih =>
    rw [GoodL, ih]
    exact ⟨fun ⟨x, y⟩ e he => (List.mem_cons.mp he).elim (fun q => by rw [q]; exact x) (y e), fun k => ⟨k a List.mem_cons_self, fun e he => k e (List.mem_cons_of_mem _ he)⟩⟩
theorem names_perm {es xs : List Ent} (h : es.Perm xs) : namesOf es = namesOf xs := sortU_congr fun x => by rw [((flat_perm h).map _).mem_iff]
theorem StOk.perm {es xs : List Ent} (h : es.Perm xs) (k : StOk es) : StOk xs :=
  ⟨⟨by rw [← h.length_eq]; exact k.lim.len, by show (flat xs).length ≤ 12; rw [← (flat_perm h).length_eq]; exact k.lim.rules, by rw [← names_perm h]; exact k.lim.names, by rw [← deep_perm h]; exact k.lim.depth⟩,
    goodL_iff.mpr fun e he => goodL_iff.mp k.good e (h.mem_iff.mpr he)⟩
def swp (es : List Ent) (i : Nat) : List Ent := es.take i ++ (match es[i]?, es[i + 1]? with
  | some a, some b => [b, a]
  | _, _ => []) ++ es.drop (i + 2)
theorem swp_perm {es : List Ent} {i : Nat} (h : i + 1 < es.length) : es.Perm (swp es i) := by
  have e1 : es = es.take i ++ [es[i], es[i + 1]] ++ es.drop (i + 2) := by
    conv => lhs; rw [← List.take_append_drop i es, List.drop_eq_getElem_cons (by omega), List.drop_eq_getElem_cons h]
    simp
  unfold swp
  rw [List.getElem?_eq_getElem h, List.getElem?_eq_getElem (by omega)]
  conv => lhs; rw [e1]
  exact ((List.Perm.swap _ _ []).append_left _).append_right _
theorem both_perm {es xs : List Ent} (h : es.Perm xs) (k : StOk es) : (bothL es xs).length ≤ 6 := by
  refine Nat.le_trans (nodup_sub_len (nodup_sortU _) fun x hx => ?_) k.lim.names
  rcases List.mem_append.mp (mem_sortU.mp hx) with h1 | h1
  · exact h1
  · rw [names_perm h]; exact h1
def alikeB (es : List Ent) (i : Nat) : Bool := (allA (bothL es (swp es i))).all fun a => isIn a.get es == isIn a.get (swp es i)
theorem alikeB_iff {es : List Ent} {i : Nat} : alikeB es i = true ↔ AlikeP es (swp es i) := by
  unfold alikeB AlikeP
  rw [List.all_eq_true]
  exact ⟨fun h a ha => eq_of_beq (h a ha), fun h a ha => beq_iff_eq.mpr (h a ha)⟩
def freeL (es : List Ent) (k : Nat) : List Nat := (List.range k).filter fun i => alikeB es i
theorem freeL_succ (es : List Ent) (k : Nat) : freeL es (k + 1) = freeL es k ++ (if alikeB es k then [k] else []) := by
  unfold freeL
  rw [List.range_succ, List.filter_append]
  cases h : alikeB es k <;> simp [h]
theorem freeL_len (es : List Ent) (k : Nat) : (freeL es k).length ≤ k := by
  have := List.length_filter_le (fun i => alikeB es i) (List.range k)
  rw [List.length_range] at this
  exact this
theorem alike_sp {n : Nat} (hn : 10 ≤ n) (es xs : List Ent) (h1 : StOk es) (h2 : StOk xs) (hU : (bothL es xs).length ≤ 6) {μ : Sto} {Q : EV → Sto → Prop} {X : XQ} (q1 : AlikeP es xs → Q (.v (.bl true)) μ) (q2 : ¬ AlikeP es xs → Q (.v (.bl false)) μ) :
    WpE (callS (call n f_alike) 2 [.v (stPV es), .v (stPV xs)] μ) Q X := by
  refine call_v (ps := [stPV es, stPV xs]) rfl rfl ?_
  rw [call_at _ (by omega), t_alike]
  simp_arith [b_alike]
  refine first_difference_sp (by omega) es xs h1 h2 hU (fun h => ?_) (fun h x y => ?_)
  · simp_arith []
    exact ⟨_, rfl, q1 h⟩
  · simp_arith []
    exact ⟨_, rfl, q2 h⟩
theorem free_pairs_sp {n : Nat} (hn : 11 ≤ n) (es : List Ent) (h : StOk es) {μ : Sto} {Q : EV → Sto → Prop} {X : XQ} (q : Q (.v (.lst (intsP (freeL es (es.length - 1))))) μ) :
    WpE (callS (call n f_free_pairs) 1 [.v (stPV es)] μ) Q X := by
  refine call_v (ps := [stPV es]) rfl rfl ?_
  rw [call_at _ (by omega), t_free_pairs]
  have hl := h.len
  simp_arith [b_free_pairs]
  rw [entPVs_map, List.length_map]
  refine ⟨by omega, ?_⟩
  rw [show ((es.length : Nat) - 1 : Int).toNat = es.length - 1 by omega]
  refine loop_rng _ (fun i ρ μ => ∃ x2 x3 x4 x5, ρ = [some (.v (stPV es)), some (.c 0), x2, x3, x4, x5] ∧ μ = [.lst (intsP (freeL es i))]) ?_ ?_ ⟨_, _, _, _, rfl, rfl⟩
  · rintro i ρ μ hi ⟨x2, x3, x4, x5, rfl, rfl⟩
    have hi1 : i + 1 < es.length := by omega
    have g1 : (entPVs es)[i]? = some (entPV es[i]) := by rw [entPVs_map, List.getElem?_map, List.getElem?_eq_getElem (by omega)]; rfl
    have g2 : (entPVs es)[i + 1]? = some (entPV es[i + 1]) := by rw [entPVs_map, List.getElem?_map, List.getElem?_eq_getElem hi1]; rfl
    have a1 : atI (entPVs es) (i : Int) = some (entPV es[i]) := atI_nat g1
    have a2 : atI (entPVs es) ((i : Int) + 1) = some (entPV es[i + 1]) := atI_nat (k := i + 1) g2
    have a3 : cutP (entPVs es) none (some (i : Int)) = (es.take i).map entPV := by rw [cut_take, entPVs_map, List.map_take]
    have a4 : cutP (entPVs es) (some ((i : Int) + 2)) none = (es.drop (i + 2)).map entPV := by rw [show (i : Int) + 2 = ((i + 2 : Nat) : Int) by omega, cut_drop, entPVs_map, List.map_drop]
    have a5 : (es.take i).map entPV ++ [entPV es[i + 1], entPV es[i]] ++ (es.drop (i + 2)).map entPV = (swp es i).map entPV := by
      unfold swp
      rw [List.getElem?_eq_getElem hi1, List.getElem?_eq_getElem (by omega : i < es.length), List.map_append, List.map_append]
      rfl
    have hp := swp_perm hi1
    have hs := h.perm hp
    have hb := both_perm hp h
    simp_arith [b_free_pairs_1, a1, a2, a3, a4]
    have t1 : (es.take i).length ≤ 12 := by rw [List.length_take]; omega
    have t2 : (es.drop (i + 2)).length ≤ 12 := by rw [List.length_drop]; omega
    refine ⟨by omega, by rw [List.length_append, List.length_map]; show _ + 2 + _ ≤ _; omega, ?_⟩
    rw [a5]
    refine make_stack_sp (by omega) (swp es i) hs.lim ?_
    simp_arith []
    refine alike_sp (by omega) es (swp es i) h hs hb (fun c => ?_) (fun c => ?_)
    · have e : freeL es (i + 1) = freeL es i ++ [i] := by rw [freeL_succ, alikeB_iff.mpr c, if_pos rfl]
      simp_arith []
      have hf := freeL_len es i
      rw [e, intsP_append]
      exact ⟨by omega, _, _, _, _, rfl, rfl⟩
    · have e : freeL es (i + 1) = freeL es i := by
        rw [freeL_succ, if_neg (fun z => c (alikeB_iff.mp z)), List.append_nil]
      simp_arith []
      rw [e]
      exact ⟨_, _, _, _, rfl, rfl⟩
  · rintro ρ μ ⟨x2, x3, x4, x5, rfl, rfl⟩
    simp_arith []
    exact ⟨_, rfl, q⟩
end T


set_option Elab.async false
set_option linter.all false
set_option maxRecDepth 100000
set_option maxHeartbeats 4000000
set_option pp.maxSteps 250
namespace T
open PySem PySem.Spec L2 G P M
local macro_rules | `(tactic| simp_arith [$ls,*]) => `(tactic| simp -failIfUnchanged -dsimp only [P.evK_eq, P.optK_some, ↓P.w_ok, ↓P.w_exc, ↓P.w_no, ↓P.w_bind, ↓P.s_nx, ↓P.s_rt, ↓P.s_bk, ↓P.s_ct, ↓P.s_exc, ↓P.s_no, ↓P.s_stm, ↓P.xS_eq, ↓P.s_seqm, ↓P.s_turnm, ↓P.w_fin, ↓P.seqK_nx, ↓P.seqK_rt, ↓P.seqK_bk, ↓P.seqK_ct, ↓P.seqK_exc, ↓P.turnK_nx, ↓P.turnK_ct, ↓P.turnK_bk, ↓P.turnK_rt, ↓P.turnK_exc, ↓P.finK_nx, ↓P.finK_rt, ↓P.finK_exc, ↓P.w_var0, ↓P.upd0, ↓P.w_var1, ↓P.upd1, ↓P.w_var2, ↓P.upd2, ↓P.w_var3, ↓P.upd3, ↓P.w_var4, ↓P.upd4, ↓P.w_var5, ↓P.upd5, ↓P.w_var6, ↓P.upd6, ↓P.w_var7, ↓P.upd7, ↓P.w_var8, ↓P.upd8, ↓P.w_var9, ↓P.upd9, ↓P.w_var10, ↓P.upd10, ↓P.w_var11, ↓P.upd11, ↓P.w_var12, ↓P.upd12, ↓P.w_var13, ↓P.upd13, ↓P.w_var14, ↓P.upd14, ↓P.w_var15, ↓P.upd15, ↓P.w_var16, ↓P.upd16, ↓P.w_var17, ↓P.upd17, ↓P.w_var18, ↓P.upd18, ↓P.w_var19, ↓P.upd19, ↓P.w_var20, ↓P.upd20, ↓P.w_var21, ↓P.upd21, ↓P.w_var22, ↓P.upd22, ↓P.w_var23, ↓P.upd23, ↓P.w_var24, ↓P.upd24, ↓P.w_var25, ↓P.upd25, P.at0, P.ixN0, P.at1, P.ixN1, P.at2, P.ixN2, P.at3, P.ixN3, P.at4, P.ixN4, P.at5, P.ixN5, P.at6, P.ixN6, P.at7, P.ixN7, P.at8, P.ixN8, P.at9, P.ixN9, P.at10, P.ixN10, P.at11, P.ixN11, P.at12, P.ixN12, ↓P.w_cM, ↓P.w_opM, ↓P.w_unM, ↓P.w_blE, ↓P.w_andVM, ↓P.w_orVM, ↓P.w_notVM, ↓P.w_ifM, ↓P.w_chainM, ↓P.w_nilM, ↓P.w_consM, P.sizeL, ↓P.vals0, ↓P.vals1, ↓P.vals2, ↓P.vals3, ↓P.vals4, ↓P.vals5, ↓P.vals6, ↓P.vals7, ↓P.vals8, ↓P.vals9, ↓P.vals10, ↓P.vals11, ↓P.vals12, ↓P.w_tupM, ↓P.w_lstM, ↓P.w_lstC, ↓P.w_cbM, ↓P.w_tstM, ↓P.w_tandM, ↓P.w_torM, ↓P.w_tnotM, ↓P.w_tyesM, ↓P.s_nxS, ↓P.s_bkS, ↓P.s_ctS, ↓P.s_retN, ↓P.s_noS, ↓P.s_seqS, ↓P.s_retS, ↓P.s_dropS, ↓P.s_ifS, ↓P.s_setS, ↓P.s_asgS, ↓P.w_nameG, ↓P.w_nilG, ↓P.w_consG, ↓P.w_tupG1, ↓P.w_tupG2, ↓P.w_tupG3, ↓P.w_tupG4, ↓P.parK_eq, ↓P.par3K_eq, ↓P.s_parS, ↓P.s_par3S, ↓P.augK_eq, ↓P.s_aug0, ↓P.s_aug1, ↓P.s_aug2, ↓P.s_aug3, ↓P.s_aug4, ↓P.s_aug5, ↓P.s_aug6, ↓P.s_aug7, ↓P.s_aug8, ↓P.s_aug9, ↓P.s_aug10, ↓P.s_aug11, ↓P.s_aug12, ↓P.s_aug13, ↓P.s_aug14, ↓P.s_aug15, ↓P.s_loop0, ↓P.s_loop1, ↓P.s_forS, ↓P.cellK_eq, P.lstCK_eq, P.lstK_eq, ↓P.seqVK_l, ↓P.seqVK_f, ↓P.tupVK_eq, P.rng1K_eq, ↓P.tup1K_eq, ↓P.str1K_eq, ↓P.intK_eq, P.strsK_eq, P.v_sub, P.v_lt, P.v_le, P.v_gt, P.v_ge, ↓P.v_mul, ↓P.v_fdiv, ↓P.v_mod, P.v_pow, P.v_addI, P.v_addT, P.v_addL, P.v_eqI, P.v_neI, P.v_eqS, P.v_neS, P.v_isN, P.v_notN, ↓P.v_ixT, ↓P.v_ixL, ↓P.v_ixF, P.ixCK_l, P.ixCK_d, ↓P.v_ixC, ↓P.v_ixD, P.v_lenT, P.v_lenL, P.v_lenF, P.v_int, P.v_min2, P.v_max2, P.v_tupL, ↓P.w_callM, ↓P.w_callWN, ↓P.w_makeM, ↓P.w_makeN, ↓P.w_makeWN, ↓P.w_fldM, ↓P.v_fld, P.insK_eq, ↓P.v_fldC, ↓P.w_frM, P.v_frV, ↓P.v_frC, ↓P.w_bmC, ↓P.w_itSeqM, ↓P.w_itTupM, ↓P.w_rng1M, ↓P.w_subG, ↓P.w_setO, ↓P.v_append, ↓P.v_popAt, ↓P.w_lcN, ↓P.w_sortSetM, ↓P.w_body, ↓P.clsCK_eq, ↓P.clsK_v, ↓P.clsK_c, ↓P.w_callWn, ↓P.w_methM, ↓P.w_methW, ↓P.nonK_eq, ↓P.w_makeW, ↓P.insPK_eq, ↓P.s_setfS, ↓P.v_isi, P.tnE_v, P.tnP_non, P.tnP_bl, P.tnP_int, P.tnP_str, P.tnP_tup, P.tnP_lst, P.tnP_ins, ↓P.w_enumM, ↓P.w_starM, P.seqE_t, P.seqE_l, P.lstE_l, P.lstE_f, ↓P.w_nxM, ↓P.w_nxT, ↓P.w_propN, ↓P.w_gIxM, ↓P.w_slM, ↓P.w_noPM, ↓P.w_partM, P.v_slT, P.v_slL, P.v_frlL, ↓P.w_revM, P.v_all, P.v_any, P.blsOf_map, P.v_in2, P.v_notIn2, P.v_eq2, P.v_ne2, ↓P.w_starC, P.isB_NoneType_int, P.isB_NoneType_bool, P.isB_NoneType_str, P.isB_NoneType_tuple, P.isB_NoneType_list, P.isB_NoneType_dict, P.isB_int_int, P.isB_int_bool, P.isB_int_str, P.isB_int_tuple, P.isB_int_list, P.isB_int_dict, P.isB_bool_int, P.isB_bool_bool, P.isB_bool_str, P.isB_bool_tuple, P.isB_bool_list, P.isB_bool_dict, P.isB_str_int, P.isB_str_bool, P.isB_str_str, P.isB_str_tuple, P.isB_str_list, P.isB_str_dict, P.isB_tuple_int, P.isB_tuple_bool, P.isB_tuple_str, P.isB_tuple_tuple, P.isB_tuple_list, P.isB_tuple_dict, P.isB_list_int, P.isB_list_bool, P.isB_list_str, P.isB_list_tuple, P.isB_list_list, P.isB_list_dict, P.isB_dict_int, P.isB_dict_bool, P.isB_dict_str, P.isB_dict_tuple, P.isB_dict_list, P.isB_dict_dict, P.valsE_nil, P.valsE_v, P.valsE_c, P.valsE_n, ↓P.valK_eq, ↓P.w_scope, P.startE_eq, ↓P.turnI_nx, ↓P.turnI_ct, ↓P.turnI_bk, ↓P.turnI_rt, ↓P.turnI_exc, ↓P.w_lc0, ↓P.w_lc1, P.ofString_inj, P.eqB_int, P.eqB_str, P.wipeR_nil, P.wipeR_cons, P.v_lenS, P.v_lenC, P.strVK_eq, ↓P.w_itStrM, P.dctE_d, P.dctE_t, P.dctE_l, P.dctE_f, P.v_listT, P.v_listL, P.v_listD, P.v_sortD, P.v_sortL, P.v_dictL, P.v_dictD, P.dzK_eq, ↓P.w_dictZip, P.strsOf_mapS, ↓P.w_tupIxM, ↓P.w_ownAdd, ↓P.w_dnew, ↓P.w_disp, P.dispK_1, P.keyP_str, P.v_orD, ↓P.w_sortSetTM, ↓P.w_lc2, P.strsK_app, P.rgK_eq, ↓P.w_rgList, T.fc_acts_Rule, T.fc_asked_rules_Run, T.fc_asks_Rule, T.fc_depth_Stack, T.fc_mark_Run, T.fc_names_Stack, T.fc_parts_Stack, T.fc_steps_Stack, T.fc_told_Run, T.ib_Rule, T.io_Rule_Rule, T.io_Rule_Run, T.io_Rule_Stack, T.iy_Rule_int, T.iy_Rule_bool, T.iy_Rule_str, T.iy_Rule_tuple, T.iy_Rule_list, T.iy_Rule_dict, T.ib_Run, T.io_Run_Rule, T.io_Run_Run, T.io_Run_Stack, T.iy_Run_int, T.iy_Run_bool, T.iy_Run_str, T.iy_Run_tuple, T.iy_Run_list, T.iy_Run_dict, T.ib_Stack, T.io_Stack_Rule, T.io_Stack_Run, T.io_Stack_Stack, T.iy_Stack_int, T.iy_Stack_bool, T.iy_Stack_str, T.iy_Stack_tuple, T.iy_Stack_list, T.iy_Stack_dict, T.pn_Rule_0, T.pv_Rule_0, T.lk_Rule_1_0, T.pn_Rule_1_0, T.pv_Rule_1_0, T.pn_Rule_1, T.pv_Rule_1, T.lk_Rule_2_0, T.pn_Rule_2_0, T.pv_Rule_2_0, T.lk_Rule_2_1, T.pn_Rule_2_1, T.pv_Rule_2_1, T.nc_Rule_action_for_0, T.nc_Rule_action_for_1, T.nc_Rule_action_for_2, T.pn_Run_0, T.pv_Run_0, T.lk_Run_1_0, T.pn_Run_1_0, T.pv_Run_1_0, T.pn_Run_1, T.pv_Run_1, T.lk_Run_2_0, T.pn_Run_2_0, T.pv_Run_2_0, T.lk_Run_2_1, T.pn_Run_2_1, T.pv_Run_2_1, T.pn_Run_2, T.pv_Run_2, T.lk_Run_3_0, T.pn_Run_3_0, T.pv_Run_3_0, T.lk_Run_3_1, T.pn_Run_3_1, T.pv_Run_3_1, T.lk_Run_3_2, T.pn_Run_3_2, T.pv_Run_3_2, T.nc_Run_ended_0, T.nc_Run_ended_1, T.nc_Run_ended_2, T.nc_Run_ended_3, T.nc_Run_outcome_0, T.nc_Run_outcome_1, T.nc_Run_outcome_2, T.nc_Run_outcome_3, T.pn_Stack_0, T.pv_Stack_0, T.lk_Stack_1_0, T.pn_Stack_1_0, T.pv_Stack_1_0, T.pn_Stack_1, T.pv_Stack_1, T.lk_Stack_2_0, T.pn_Stack_2_0, T.pv_Stack_2_0, T.lk_Stack_2_1, T.pn_Stack_2_1, T.pv_Stack_2_1, T.pn_Stack_2, T.pv_Stack_2, T.lk_Stack_3_0, T.pn_Stack_3_0, T.pv_Stack_3_0, T.lk_Stack_3_1, T.pn_Stack_3_1, T.pv_Stack_3_1, T.lk_Stack_3_2, T.pn_Stack_3_2, T.pv_Stack_3_2, T.pn_Stack_3, T.pv_Stack_3, T.lk_Stack_4_0, T.pn_Stack_4_0, T.pv_Stack_4_0, T.lk_Stack_4_1, T.pn_Stack_4_1, T.pv_Stack_4_1, T.lk_Stack_4_2, T.pn_Stack_4_2, T.pv_Stack_4_2, T.lk_Stack_4_3, T.pn_Stack_4_3, T.pv_Stack_4_3, T.nc_Stack___add___0, T.nc_Stack___add___1, T.nc_Stack___add___2, T.nc_Stack___add___3, T.nc_Stack___add___4, T.in_ok, T.in_bad, T.eq_reset, T.eq_die, T.eq_done, T.eq_none, T.eq_good, T.in_letter, T.tn_rule, eq_self, decide_true, decide_false, String.reduceEq, String.reduceNe, Bool.not_eq_eq_eq_not, List.length_map, List.map_cons, List.map_nil, List.replicate_succ, List.replicate_zero, decide_eq_true_eq, decide_eq_false_iff_not, Bool.not_eq_true', Bool.not_eq_false', Bool.not_true, Bool.not_false, if_true, if_false, List.getElem?_cons_zero, List.getElem?_cons_succ, List.set_cons_zero, List.set_cons_succ, List.cons_append, List.nil_append, List.length_cons, List.length_nil, and_true, true_and, ↓reduceIte, reduceCtorEq, Int.reduceLT, Int.reduceLE, Int.reduceEq, Int.reduceNe, Int.reduceAdd, Int.reduceSub, Int.reduceMul, Int.reduceDiv, Int.reduceMod, Int.reducePow, Int.reduceNeg, Int.reduceToNat, P.natAbs10, Nat.reduceAdd, Nat.reduceSub, Nat.reduceMul, Nat.reduceLT, Nat.reduceLeDiff, Nat.reduceEqDiff, Nat.reducePow, or_true, true_or, and_self, not_true_eq_false, not_false_eq_true, Bool.false_eq_true, Bool.true_eq_false, $ls,*])
/-! ### calm rules: no jumps, no ends, no resets -/
def CalmA (a : Actn) : Prop := a = .ok ∨ a = .bad ∨ a = .ignore
def CalmT (t : Tb) : Prop := ∀ r : Res, CalmA (t.get r)
def CalmL (l : List (Str × Tb)) : Prop := ∀ x ∈ l, CalmT x.2
def foldC (A : Str → Res) : List (Str × Tb) → Nat → Mark → Mark
  | [], _, m => m
  | x :: r, num, m => foldC A r (num + 1) (stepM (x.2.get (A x.1)) m .none num)
theorem foldC_append (A : Str → Res) : ∀ (l k : List (Str × Tb)) (num : Nat) (m : Mark), foldC A (l ++ k) num m = foldC A k (num + l.length) (foldC A l num m)
  | [], _, _, _ => rfl
  | x :: r, k, num, m => by
    rw [List.cons_append, foldC, foldC, foldC_append A r k, List.length_cons, show num + 1 + r.length = num + (r.length + 1) by omega]
theorem step_calm {a : Actn} (h : CalmA a) (m b : Mark) (n : Nat) : stepM a m b n = stepM a m .none n := by
  rcases h with rfl | rfl | rfl <;> rfl
theorem stops_calm {a : Actn} (h : CalmA a) (m : Mark) : stopsB a m = false := by
  rcases h with rfl | rfl | rfl <;> rfl
theorem jump_calm {a : Actn} (h : CalmA a) : jumpOf a = 0 := by
  rcases h with rfl | rfl | rfl <;> rfl
theorem range_app (a n m : Nat) : List.range' a (n + m) = List.range' a n ++ List.range' (a + n) m := by
  rw [List.range'_append_1]
mutual
theorem runE_calm (A : Str → Res) : ∀ (e : Ent), CalmL (flat1 e) → ∀ (num : Nat) (m b : Mark), runE A e num m b = (foldC A (flat1 e) num m, List.range' num (flat1 e).length)
  | .rule x t, h, num, m, b => by
    have ht : CalmT t := h (x, t) (by rw [flat1]; exact List.mem_singleton.mpr rfl)
    rw [runE, flat1, foldC, foldC, step_calm (ht _)]
    rfl
  | .sub es, h, num, m, b => by
    rw [runE, flat1]
    exact runL_calm A es (by rw [flat1] at h; exact h) num m m
theorem runL_calm (A : Str → Res) : ∀ (es : List Ent), CalmL (flat es) → ∀ (num : Nat) (m b : Mark), runL A es 0 num m b = (foldC A (flat es) num m, List.range' num (flat es).length)
  | [], _, _, _, _ => by rw [runL, flat]; rfl
  | .rule x t :: r, h, num, m, b => by
    rw [flat] at h ⊢
    have h1 := runE_calm A (.rule x t) (fun y hy => h y (List.mem_append_left _ hy)) num m b
    have h2 := runL_calm A r (fun y hy => h y (List.mem_append_right _ hy)) (num + size1 (.rule x t))
    have ht : CalmT t := h (x, t) (List.mem_append_left _ (by rw [flat1]; exact List.mem_singleton.mpr rfl))
    rw [runL]
    dsimp only
    rw [h1, stops_calm (ht _), if_neg (by decide), jump_calm (ht _), h2, foldC_append, List.length_append, range_app]
  | .sub xs :: r, h, num, m, b => by
    rw [flat] at h ⊢
    have h1 := runE_calm A (.sub xs) (fun y hy => h y (List.mem_append_left _ hy)) num m b
    have h2 := runL_calm A r (fun y hy => h y (List.mem_append_right _ hy)) (num + size1 (.sub xs))
    rw [runL]
    dsimp only
    rw [h1, if_neg (by decide), h2, foldC_append, List.length_append, range_app]
end
theorem run_calm (A : Str → Res) {es : List Ent} (h : CalmL (flat es)) : M.run A es = (foldC A (flat es) 0 .none, List.range' 0 (flat es).length) := runL_calm A es h 0 .none .none
theorem intsP_range (n : Nat) : intsP (List.range' 0 n) = intsN n := by rw [← List.range_eq_range']; rfl
/-! ### wrapped -/
theorem runL_sub (A : Str → Res) (xs r : List Ent) (num : Nat) (m b : Mark) : runL A (.sub xs :: r) 0 num m b = ((runL A r 0 (num + size1 (.sub xs)) (runL A xs 0 num m m).1 b).1, (runL A xs 0 num m m).2 ++ (runL A r 0 (num + size1 (.sub xs)) (runL A xs 0 num m m).1 b).2) := by
  rw [runL]
  dsimp only
  rw [if_neg (by decide), runE]
theorem run_skip (A : Str → Res) (r : List Ent) (num : Nat) (m b : Mark) : runL A (.sub [] :: r) 0 num m b = runL A r 0 num m b := by
  rw [runL_sub, runL]
  rfl
theorem run_wrap (A : Str → Res) (es : List Ent) : M.run A [.sub es] = M.run A es := by
  unfold M.run
  rw [runL_sub, runL, List.append_nil]
theorem run_end (A : Str → Res) (es r : List Ent) (num : Nat) (m b : Mark) : runL A (.sub es :: .sub [] :: r) 0 num m b = runL A (.sub es :: r) 0 num m b := by
  rw [runL_sub, run_skip, ← runL_sub]
theorem run_mid1 (A : Str → Res) (es : List Ent) : M.run A [.sub [], .sub es, .sub []] = M.run A es := by
  rw [← run_wrap A es]
  unfold M.run
  rw [run_skip, run_end]
theorem run_mid2 (A : Str → Res) (es : List Ent) : M.run A [.sub es, .sub [], .sub []] = M.run A es := by
  rw [← run_wrap A es]
  unfold M.run
  rw [run_end, run_end]
theorem run_mid3 (A : Str → Res) (es : List Ent) : M.run A [.sub [], .sub [], .sub es] = M.run A es := by
  rw [← run_wrap A es]
  unfold M.run
  rw [run_skip, run_skip]
theorem isIn_run {A : Str → Res} {es xs : List Ent} (h : M.run A es = M.run A xs) : isIn A es = isIn A xs := by unfold isIn; rw [h]
end T


set_option Elab.async false
set_option linter.all false
set_option maxRecDepth 100000
set_option maxHeartbeats 4000000
set_option pp.maxSteps 250
namespace T
open PySem PySem.Spec L2 G P M
local macro_rules | `(tactic| simp_arith [$ls,*]) => `(tactic| simp -failIfUnchanged -dsimp only [P.evK_eq, P.optK_some, ↓P.w_ok, ↓P.w_exc, ↓P.w_no, ↓P.w_bind, ↓P.s_nx, ↓P.s_rt, ↓P.s_bk, ↓P.s_ct, ↓P.s_exc, ↓P.s_no, ↓P.s_stm, ↓P.xS_eq, ↓P.s_seqm, ↓P.s_turnm, ↓P.w_fin, ↓P.seqK_nx, ↓P.seqK_rt, ↓P.seqK_bk, ↓P.seqK_ct, ↓P.seqK_exc, ↓P.turnK_nx, ↓P.turnK_ct, ↓P.turnK_bk, ↓P.turnK_rt, ↓P.turnK_exc, ↓P.finK_nx, ↓P.finK_rt, ↓P.finK_exc, ↓P.w_var0, ↓P.upd0, ↓P.w_var1, ↓P.upd1, ↓P.w_var2, ↓P.upd2, ↓P.w_var3, ↓P.upd3, ↓P.w_var4, ↓P.upd4, ↓P.w_var5, ↓P.upd5, ↓P.w_var6, ↓P.upd6, ↓P.w_var7, ↓P.upd7, ↓P.w_var8, ↓P.upd8, ↓P.w_var9, ↓P.upd9, ↓P.w_var10, ↓P.upd10, ↓P.w_var11, ↓P.upd11, ↓P.w_var12, ↓P.upd12, ↓P.w_var13, ↓P.upd13, ↓P.w_var14, ↓P.upd14, ↓P.w_var15, ↓P.upd15, ↓P.w_var16, ↓P.upd16, ↓P.w_var17, ↓P.upd17, ↓P.w_var18, ↓P.upd18, ↓P.w_var19, ↓P.upd19, ↓P.w_var20, ↓P.upd20, ↓P.w_var21, ↓P.upd21, ↓P.w_var22, ↓P.upd22, ↓P.w_var23, ↓P.upd23, ↓P.w_var24, ↓P.upd24, ↓P.w_var25, ↓P.upd25, P.at0, P.ixN0, P.at1, P.ixN1, P.at2, P.ixN2, P.at3, P.ixN3, P.at4, P.ixN4, P.at5, P.ixN5, P.at6, P.ixN6, P.at7, P.ixN7, P.at8, P.ixN8, P.at9, P.ixN9, P.at10, P.ixN10, P.at11, P.ixN11, P.at12, P.ixN12, ↓P.w_cM, ↓P.w_opM, ↓P.w_unM, ↓P.w_blE, ↓P.w_andVM, ↓P.w_orVM, ↓P.w_notVM, ↓P.w_ifM, ↓P.w_chainM, ↓P.w_nilM, ↓P.w_consM, P.sizeL, ↓P.vals0, ↓P.vals1, ↓P.vals2, ↓P.vals3, ↓P.vals4, ↓P.vals5, ↓P.vals6, ↓P.vals7, ↓P.vals8, ↓P.vals9, ↓P.vals10, ↓P.vals11, ↓P.vals12, ↓P.w_tupM, ↓P.w_lstM, ↓P.w_lstC, ↓P.w_cbM, ↓P.w_tstM, ↓P.w_tandM, ↓P.w_torM, ↓P.w_tnotM, ↓P.w_tyesM, ↓P.s_nxS, ↓P.s_bkS, ↓P.s_ctS, ↓P.s_retN, ↓P.s_noS, ↓P.s_seqS, ↓P.s_retS, ↓P.s_dropS, ↓P.s_ifS, ↓P.s_setS, ↓P.s_asgS, ↓P.w_nameG, ↓P.w_nilG, ↓P.w_consG, ↓P.w_tupG1, ↓P.w_tupG2, ↓P.w_tupG3, ↓P.w_tupG4, ↓P.parK_eq, ↓P.par3K_eq, ↓P.s_parS, ↓P.s_par3S, ↓P.augK_eq, ↓P.s_aug0, ↓P.s_aug1, ↓P.s_aug2, ↓P.s_aug3, ↓P.s_aug4, ↓P.s_aug5, ↓P.s_aug6, ↓P.s_aug7, ↓P.s_aug8, ↓P.s_aug9, ↓P.s_aug10, ↓P.s_aug11, ↓P.s_aug12, ↓P.s_aug13, ↓P.s_aug14, ↓P.s_aug15, ↓P.s_loop0, ↓P.s_loop1, ↓P.s_forS, ↓P.cellK_eq, P.lstCK_eq, P.lstK_eq, ↓P.seqVK_l, ↓P.seqVK_f, ↓P.tupVK_eq, P.rng1K_eq, ↓P.tup1K_eq, ↓P.str1K_eq, ↓P.intK_eq, P.strsK_eq, P.v_sub, P.v_lt, P.v_le, P.v_gt, P.v_ge, ↓P.v_mul, ↓P.v_fdiv, ↓P.v_mod, P.v_pow, P.v_addI, P.v_addT, P.v_addL, P.v_eqI, P.v_neI, P.v_eqS, P.v_neS, P.v_isN, P.v_notN, ↓P.v_ixT, ↓P.v_ixL, ↓P.v_ixF, P.ixCK_l, P.ixCK_d, ↓P.v_ixC, ↓P.v_ixD, P.v_lenT, P.v_lenL, P.v_lenF, P.v_int, P.v_min2, P.v_max2, P.v_tupL, ↓P.w_callM, ↓P.w_callWN, ↓P.w_makeM, ↓P.w_makeN, ↓P.w_makeWN, ↓P.w_fldM, ↓P.v_fld, P.insK_eq, ↓P.v_fldC, ↓P.w_frM, P.v_frV, ↓P.v_frC, ↓P.w_bmC, ↓P.w_itSeqM, ↓P.w_itTupM, ↓P.w_rng1M, ↓P.w_subG, ↓P.w_setO, ↓P.v_append, ↓P.v_popAt, ↓P.w_lcN, ↓P.w_sortSetM, ↓P.w_body, ↓P.clsCK_eq, ↓P.clsK_v, ↓P.clsK_c, ↓P.w_callWn, ↓P.w_methM, ↓P.w_methW, ↓P.nonK_eq, ↓P.w_makeW, ↓P.insPK_eq, ↓P.s_setfS, ↓P.v_isi, P.tnE_v, P.tnP_non, P.tnP_bl, P.tnP_int, P.tnP_str, P.tnP_tup, P.tnP_lst, P.tnP_ins, ↓P.w_enumM, ↓P.w_starM, P.seqE_t, P.seqE_l, P.lstE_l, P.lstE_f, ↓P.w_nxM, ↓P.w_nxT, ↓P.w_propN, ↓P.w_gIxM, ↓P.w_slM, ↓P.w_noPM, ↓P.w_partM, P.v_slT, P.v_slL, P.v_frlL, ↓P.w_revM, P.v_all, P.v_any, P.blsOf_map, P.v_in2, P.v_notIn2, P.v_eq2, P.v_ne2, ↓P.w_starC, P.isB_NoneType_int, P.isB_NoneType_bool, P.isB_NoneType_str, P.isB_NoneType_tuple, P.isB_NoneType_list, P.isB_NoneType_dict, P.isB_int_int, P.isB_int_bool, P.isB_int_str, P.isB_int_tuple, P.isB_int_list, P.isB_int_dict, P.isB_bool_int, P.isB_bool_bool, P.isB_bool_str, P.isB_bool_tuple, P.isB_bool_list, P.isB_bool_dict, P.isB_str_int, P.isB_str_bool, P.isB_str_str, P.isB_str_tuple, P.isB_str_list, P.isB_str_dict, P.isB_tuple_int, P.isB_tuple_bool, P.isB_tuple_str, P.isB_tuple_tuple, P.isB_tuple_list, P.isB_tuple_dict, P.isB_list_int, P.isB_list_bool, P.isB_list_str, P.isB_list_tuple, P.isB_list_list, P.isB_list_dict, P.isB_dict_int, P.isB_dict_bool, P.isB_dict_str, P.isB_dict_tuple, P.isB_dict_list, P.isB_dict_dict, P.valsE_nil, P.valsE_v, P.valsE_c, P.valsE_n, ↓P.valK_eq, ↓P.w_scope, P.startE_eq, ↓P.turnI_nx, ↓P.turnI_ct, ↓P.turnI_bk, ↓P.turnI_rt, ↓P.turnI_exc, ↓P.w_lc0, ↓P.w_lc1, P.ofString_inj, P.eqB_int, P.eqB_str, P.wipeR_nil, P.wipeR_cons, P.v_lenS, P.v_lenC, P.strVK_eq, ↓P.w_itStrM, P.dctE_d, P.dctE_t, P.dctE_l, P.dctE_f, P.v_listT, P.v_listL, P.v_listD, P.v_sortD, P.v_sortL, P.v_dictL, P.v_dictD, P.dzK_eq, ↓P.w_dictZip, P.strsOf_mapS, ↓P.w_tupIxM, ↓P.w_ownAdd, ↓P.w_dnew, ↓P.w_disp, P.dispK_1, P.keyP_str, P.v_orD, ↓P.w_sortSetTM, ↓P.w_lc2, P.strsK_app, P.rgK_eq, ↓P.w_rgList, T.fc_acts_Rule, T.fc_asked_rules_Run, T.fc_asks_Rule, T.fc_depth_Stack, T.fc_mark_Run, T.fc_names_Stack, T.fc_parts_Stack, T.fc_steps_Stack, T.fc_told_Run, T.ib_Rule, T.io_Rule_Rule, T.io_Rule_Run, T.io_Rule_Stack, T.iy_Rule_int, T.iy_Rule_bool, T.iy_Rule_str, T.iy_Rule_tuple, T.iy_Rule_list, T.iy_Rule_dict, T.ib_Run, T.io_Run_Rule, T.io_Run_Run, T.io_Run_Stack, T.iy_Run_int, T.iy_Run_bool, T.iy_Run_str, T.iy_Run_tuple, T.iy_Run_list, T.iy_Run_dict, T.ib_Stack, T.io_Stack_Rule, T.io_Stack_Run, T.io_Stack_Stack, T.iy_Stack_int, T.iy_Stack_bool, T.iy_Stack_str, T.iy_Stack_tuple, T.iy_Stack_list, T.iy_Stack_dict, T.pn_Rule_0, T.pv_Rule_0, T.lk_Rule_1_0, T.pn_Rule_1_0, T.pv_Rule_1_0, T.pn_Rule_1, T.pv_Rule_1, T.lk_Rule_2_0, T.pn_Rule_2_0, T.pv_Rule_2_0, T.lk_Rule_2_1, T.pn_Rule_2_1, T.pv_Rule_2_1, T.nc_Rule_action_for_0, T.nc_Rule_action_for_1, T.nc_Rule_action_for_2, T.pn_Run_0, T.pv_Run_0, T.lk_Run_1_0, T.pn_Run_1_0, T.pv_Run_1_0, T.pn_Run_1, T.pv_Run_1, T.lk_Run_2_0, T.pn_Run_2_0, T.pv_Run_2_0, T.lk_Run_2_1, T.pn_Run_2_1, T.pv_Run_2_1, T.pn_Run_2, T.pv_Run_2, T.lk_Run_3_0, T.pn_Run_3_0, T.pv_Run_3_0, T.lk_Run_3_1, T.pn_Run_3_1, T.pv_Run_3_1, T.lk_Run_3_2, T.pn_Run_3_2, T.pv_Run_3_2, T.nc_Run_ended_0, T.nc_Run_ended_1, T.nc_Run_ended_2, T.nc_Run_ended_3, T.nc_Run_outcome_0, T.nc_Run_outcome_1, T.nc_Run_outcome_2, T.nc_Run_outcome_3, T.pn_Stack_0, T.pv_Stack_0, T.lk_Stack_1_0, T.pn_Stack_1_0, T.pv_Stack_1_0, T.pn_Stack_1, T.pv_Stack_1, T.lk_Stack_2_0, T.pn_Stack_2_0, T.pv_Stack_2_0, T.lk_Stack_2_1, T.pn_Stack_2_1, T.pv_Stack_2_1, T.pn_Stack_2, T.pv_Stack_2, T.lk_Stack_3_0, T.pn_Stack_3_0, T.pv_Stack_3_0, T.lk_Stack_3_1, T.pn_Stack_3_1, T.pv_Stack_3_1, T.lk_Stack_3_2, T.pn_Stack_3_2, T.pv_Stack_3_2, T.pn_Stack_3, T.pv_Stack_3, T.lk_Stack_4_0, T.pn_Stack_4_0, T.pv_Stack_4_0, T.lk_Stack_4_1, T.pn_Stack_4_1, T.pv_Stack_4_1, T.lk_Stack_4_2, T.pn_Stack_4_2, T.pv_Stack_4_2, T.lk_Stack_4_3, T.pn_Stack_4_3, T.pv_Stack_4_3, T.nc_Stack___add___0, T.nc_Stack___add___1, T.nc_Stack___add___2, T.nc_Stack___add___3, T.nc_Stack___add___4, T.in_ok, T.in_bad, T.eq_reset, T.eq_die, T.eq_done, T.eq_none, T.eq_good, T.in_letter, T.tn_rule, eq_self, decide_true, decide_false, String.reduceEq, String.reduceNe, Bool.not_eq_eq_eq_not, List.length_map, List.map_cons, List.map_nil, List.replicate_succ, List.replicate_zero, decide_eq_true_eq, decide_eq_false_iff_not, Bool.not_eq_true', Bool.not_eq_false', Bool.not_true, Bool.not_false, if_true, if_false, List.getElem?_cons_zero, List.getElem?_cons_succ, List.set_cons_zero, List.set_cons_succ, List.cons_append, List.nil_append, List.length_cons, List.length_nil, and_true, true_and, ↓reduceIte, reduceCtorEq, Int.reduceLT, Int.reduceLE, Int.reduceEq, Int.reduceNe, Int.reduceAdd, Int.reduceSub, Int.reduceMul, Int.reduceDiv, Int.reduceMod, Int.reducePow, Int.reduceNeg, Int.reduceToNat, P.natAbs10, Nat.reduceAdd, Nat.reduceSub, Nat.reduceMul, Nat.reduceLT, Nat.reduceLeDiff, Nat.reduceEqDiff, Nat.reducePow, or_true, true_or, and_self, not_true_eq_false, not_false_eq_true, Bool.false_eq_true, Bool.true_eq_false, $ls,*])
/-! ### calm rules drawn -/
theorem at3 {d : Nat} (h : (d : Int) < 3) : ∃ a : Actn, atI [PV.str "ok", .str "bad", .str "ignore"] (d : Int) = some a.pv ∧ CalmA a := by
  have : d = 0 ∨ d = 1 ∨ d = 2 := by omega
  rcases this with rfl | rfl | rfl
  · exact ⟨.ok, rfl, .inl rfl⟩
  · exact ⟨.bad, rfl, .inr (.inl rfl)⟩
  · exact ⟨.ignore, rfl, .inr (.inr rfl)⟩
theorem calm_ok {a : Actn} (h : CalmA a) : a.Ok := by rcases h with rfl | rfl | rfl <;> trivial
structure CalmR (N : List Str) (F : List (Str × Tb)) : Prop where
  len : F.length ≤ 5
  calm : CalmL F
  mem : ∀ x ∈ F, x.1 ∈ N
theorem calm_sp {n : Nat} (hn : 3 ≤ n) {N : List Str} (hN : N ≠ []) (hN6 : N.length ≤ 6) {row : List PV} {ns : List Int} (h : RowOk row ns) {μ : Sto} {Q : EV → Sto → Prop} {X : XQ}
    (q : ∀ (F : List (Str × Tb)) row', CalmR N F → RowOk row' ns → Q (.v (.lst (F.map ruT))) (.lst row' :: μ)) :
    WpE (callS (call n f_l_calm) 3 [.c 0, .v (.lst (N.map PV.str)), .v (.int 5)] (.lst row :: μ)) Q X := by
  refine call_c (k := 0) (x := .lst row) (ps := [.lst (N.map PV.str), .int 5]) rfl rfl rfl rfl ?_
  rw [call_at _ (by omega), t_l_calm]
  simp_arith [b_l_calm]
  refine taken_sp (by omega) h (by omega) (by omega) fun k row1 hk hrow1 => ?_
  simp_arith []
  refine ⟨by omega, ?_⟩
  rw [show ((k : Nat) : Int).toNat = k by omega]
  refine loop_rng k (fun i ρ μ => ∃ (F : List (Str × Tb)) (row : List PV) (x5 x6 : Option EV), F.length ≤ i ∧ CalmL F ∧ (∀ x ∈ F, x.1 ∈ N) ∧ RowOk row ns ∧ ρ = [some (.c 0), some (.v (.lst (N.map PV.str))), some (.v (.int 5)), some (.v (.lst [.str "ok", .str "bad", .str "ignore"])), some (.c 1), x5, x6] ∧ μ = [.lst row, .lst (F.map ruT)]) ?_ ?_ ⟨[], row1, none, none, Nat.le_refl _, fun x hx => (by cases hx), fun x hx => (by cases hx), hrow1, rfl, rfl⟩
  · rintro i ρ μ hi ⟨F, row, x5, x6, h1, h2, h3, h4, rfl, rfl⟩
    have e4 : P.intsFrom 0 4 = [.v (.int 0), .v (.int 1), .v (.int 2), .v (.int 3)] := rfl
    simp_arith [b_l_calm_1]
    have hp : 0 < (N.map PV.str).length := by rw [List.length_map]; exact List.length_pos_iff.mpr hN
    refine pick_sp (by omega) h4 hp (by rw [List.length_map]; omega) fun x row2 hx hr2 => ?_
    obtain ⟨m, hm, rfl⟩ := List.mem_map.mp hx
    simp_arith [e4]
    refine taken_sp (by omega) hr2 (by omega) (by omega) fun d1 s1 g1 hs1 => ?_
    obtain ⟨a1, k1, o1⟩ := at3 g1
    simp_arith [k1]
    refine taken_sp (by omega) hs1 (by omega) (by omega) fun d2 s2 g2 hs2 => ?_
    obtain ⟨a2, k2, o2⟩ := at3 g2
    simp_arith [k2]
    refine taken_sp (by omega) hs2 (by omega) (by omega) fun d3 s3 g3 hs3 => ?_
    obtain ⟨a3, k3, o3⟩ := at3 g3
    simp_arith [k3]
    refine taken_sp (by omega) hs3 (by omega) (by omega) fun d4 s4 g4 hs4 => ?_
    obtain ⟨a4, k4, o4⟩ := at3 g4
    simp_arith [k4]
    have et : [PV.tup [PV.str m, PV.tup [a1.pv, a2.pv, a3.pv, a4.pv]]] = [(m, (⟨a1, a2, a3, a4⟩ : Tb))].map ruT := rfl
    rw [et, ← List.map_append]
    refine ⟨by omega, F ++ [(m, ⟨a1, a2, a3, a4⟩)], s4, _, _, by rw [List.length_append]; show _ + 1 ≤ _; omega, ?_, ?_, hs4, rfl, rfl⟩
    · intro y hy
      rcases List.mem_append.mp hy with hy | hy
      · exact h2 y hy
      · rw [List.mem_singleton.mp hy]
        intro r
        cases r
        · exact o1
        · exact o2
        · exact o3
        · exact o4
    · intro y hy
      rcases List.mem_append.mp hy with hy | hy
      · exact h3 y hy
      · rw [List.mem_singleton.mp hy]; exact hm
  · rintro ρ μ ⟨F, row, x5, x6, h1, h2, h3, h4, rfl, rfl⟩
    simp_arith []
    exact ⟨_, _, _, rfl, rfl, rfl, q F row ⟨by omega, h2, h3⟩ h4⟩
/-! ### the same rules, put together otherwise -/
def rl (F : List (Str × Tb)) : List Ent := F.map fun x => .rule x.1 x.2
theorem flat_rl (F : List (Str × Tb)) : flat (rl F) = F := by
  induction F with
  | nil => rfl
  | cons a r ih => show flat (.rule a.1 a.2 :: rl r) = _; rw [flat, flat1, ih]; rfl
theorem pl_rl (F : List (Str × Tb)) : (rl F).map plPV = F.map ruT := by
  unfold rl
  rw [List.map_map]
  rfl
theorem deep_rl (F : List (Str × Tb)) : deep (rl F) = 1 := by
  induction F with
  | nil => rfl
  | cons a r ih => show deep (.rule a.1 a.2 :: rl r) = _; rw [deep, ih, deep1]; rfl
theorem good_rl {F : List (Str × Tb)} (h : CalmL F) : GoodL (rl F) := goodL_iff.mpr fun e he => by
  obtain ⟨x, hx, rfl⟩ := List.mem_map.mp he
  rw [Good1]
  have := h x hx
  exact ⟨calm_ok (this .yes), calm_ok (this .no), calm_ok (this .skip), calm_ok (this .gone)⟩
theorem lim_of {N : List Str} {F : List (Str × Tb)} (h : CalmR N F) (hN : N.length ≤ 6) {es : List Ent} (hl : es.length ≤ 12) (hs : (flat es).length ≤ F.length) (hm : ∀ x ∈ flat es, x ∈ F) (hd : deep es ≤ 3) : Lim es :=
  ⟨hl, by show (flat es).length ≤ 12; have := h.len; omega, Nat.le_trans (names_le fun x hx => h.mem x (hm x hx)) hN, hd⟩
def singles (F : List (Str × Tb)) : List Ent := F.map fun x => .sub [.rule x.1 x.2]
theorem flat_singles (F : List (Str × Tb)) : flat (singles F) = F := by
  induction F with
  | nil => rfl
  | cons a r ih => show flat (.sub [.rule a.1 a.2] :: singles r) = _; rw [flat, flat1, flat, flat1, ih]; rfl
theorem deep_singles (F : List (Str × Tb)) : deep (singles F) ≤ 2 := by
  induction F with
  | nil => decide
  | cons a r ih =>
    show deep (.sub [.rule a.1 a.2] :: singles r) ≤ _
    rw [deep, deep1]
    have : deep [Ent.rule a.1 a.2] = 1 := rfl
    omega
def SS (F : List (Str × Tb)) (c : Nat) : List (List Ent) := [rl F, [.sub (rl F)], singles F, [.sub (rl (F.take c)), .sub [], .sub (rl (F.drop c))], [.sub [.sub (rl (F.take c))], .sub (rl (F.drop c))]]
theorem ss_ok {N : List Str} {F : List (Str × Tb)} (h : CalmR N F) (hN : N.length ≤ 6) (c : Nat) : ∀ es ∈ SS F c, flat es = F ∧ StOk es := by
  have hl := h.len
  have mk : ∀ es : List Ent, flat es = F → es.length ≤ 12 → deep es ≤ 3 → GoodL es → flat es = F ∧ StOk es := fun es e1 e2 e3 e4 => ⟨e1, lim_of h hN e2 (by rw [e1]; exact Nat.le_refl _) (fun x hx => by rw [← e1]; exact hx) e3, e4⟩
  have sub : ∀ G : List (Str × Tb), G.length ≤ F.length → (∀ x ∈ G, x ∈ F) → Lim (rl G) ∧ GoodL (rl G) := fun G g1 g2 =>
    ⟨lim_of h hN (by unfold rl; rw [List.length_map]; omega) (by rw [flat_rl]; exact g1) (by rw [flat_rl]; exact g2) (by rw [deep_rl]; omega), good_rl fun x hx => h.calm x (g2 x hx)⟩
  have st := sub (F.take c) (by rw [List.length_take]; omega) fun x hx => List.mem_of_mem_take hx
  have sd := sub (F.drop c) (by rw [List.length_drop]; omega) fun x hx => List.mem_of_mem_drop hx
  have sn := sub [] (Nat.zero_le _) fun x hx => (by cases hx)
  have ft : flat (rl (F.take c)) ++ flat (rl (F.drop c)) = F := by rw [flat_rl, flat_rl, List.take_append_drop]
  have d1 := deep_rl (F.take c)
  have d2 := deep_rl (F.drop c)
  intro es he
  simp only [SS, List.mem_cons, List.not_mem_nil, or_false] at he
  rcases he with rfl | rfl | rfl | rfl | rfl
  · exact mk _ (flat_rl F) (by unfold rl; rw [List.length_map]; omega) (by rw [deep_rl]; omega) (good_rl h.calm)
  · refine mk _ (by simp only [flat, flat1, flat_rl, List.append_nil]) (by simp) (by simp [deep, deep1, deep_rl]) ⟨?_, trivial⟩
    rw [Good1]
    exact sub F (Nat.le_refl _) fun x hx => hx
  · refine mk _ (flat_singles F) (by unfold singles; rw [List.length_map]; omega) (by have := deep_singles F; omega) (goodL_iff.mpr fun e he => ?_)
    obtain ⟨x, hx, rfl⟩ := List.mem_map.mp he
    rw [Good1]
    exact sub [x] (List.length_pos_of_mem hx) fun y hy => by rw [List.mem_singleton.mp hy]; exact hx
  · refine mk _ (by simp only [flat, flat1, List.append_nil, List.nil_append]; exact ft) (by simp) (by simp [deep, deep1, d1, d2]) ⟨?_, ?_, ?_, trivial⟩
    · rw [Good1]; exact st
    · rw [Good1]; exact sn
    · rw [Good1]; exact sd
  · refine mk _ (by simp only [flat, flat1, List.append_nil, List.nil_append]; exact ft) (by simp) (by simp [deep, deep1, d1, d2]) ⟨?_, ?_, trivial⟩
    · rw [Good1]
      refine ⟨lim_of h hN (by simp) ?_ ?_ (by simp [deep, deep1, d1]), ⟨?_, trivial⟩⟩
      · rw [flat, flat1, flat, List.append_nil, flat_rl, List.length_take]; omega
      · rw [flat, flat1, flat, List.append_nil, flat_rl]; exact fun x hx => List.mem_of_mem_take hx
      · rw [Good1]; exact st
    · rw [Good1]; exact sd
theorem run_ss {N : List Str} {F : List (Str × Tb)} (h : CalmR N F) (hN : N.length ≤ 6) {c : Nat} {es : List Ent} (he : es ∈ SS F c) (A : Str → Res) : M.run A es = (foldC A F 0 .none, List.range' 0 F.length) := by
  have e := (ss_ok h hN c es he).1
  rw [run_calm A (by rw [e]; exact h.calm), e]
end T


set_option Elab.async false
set_option linter.all false
set_option maxRecDepth 100000
set_option maxHeartbeats 4000000
set_option pp.maxSteps 250
namespace T
open PySem PySem.Spec L2 G P M
local macro_rules | `(tactic| simp_arith [$ls,*]) => `(tactic| simp -failIfUnchanged -dsimp only [P.evK_eq, P.optK_some, ↓P.w_ok, ↓P.w_exc, ↓P.w_no, ↓P.w_bind, ↓P.s_nx, ↓P.s_rt, ↓P.s_bk, ↓P.s_ct, ↓P.s_exc, ↓P.s_no, ↓P.s_stm, ↓P.xS_eq, ↓P.s_seqm, ↓P.s_turnm, ↓P.w_fin, ↓P.seqK_nx, ↓P.seqK_rt, ↓P.seqK_bk, ↓P.seqK_ct, ↓P.seqK_exc, ↓P.turnK_nx, ↓P.turnK_ct, ↓P.turnK_bk, ↓P.turnK_rt, ↓P.turnK_exc, ↓P.finK_nx, ↓P.finK_rt, ↓P.finK_exc, ↓P.w_var0, ↓P.upd0, ↓P.w_var1, ↓P.upd1, ↓P.w_var2, ↓P.upd2, ↓P.w_var3, ↓P.upd3, ↓P.w_var4, ↓P.upd4, ↓P.w_var5, ↓P.upd5, ↓P.w_var6, ↓P.upd6, ↓P.w_var7, ↓P.upd7, ↓P.w_var8, ↓P.upd8, ↓P.w_var9, ↓P.upd9, ↓P.w_var10, ↓P.upd10, ↓P.w_var11, ↓P.upd11, ↓P.w_var12, ↓P.upd12, ↓P.w_var13, ↓P.upd13, ↓P.w_var14, ↓P.upd14, ↓P.w_var15, ↓P.upd15, ↓P.w_var16, ↓P.upd16, ↓P.w_var17, ↓P.upd17, ↓P.w_var18, ↓P.upd18, ↓P.w_var19, ↓P.upd19, ↓P.w_var20, ↓P.upd20, ↓P.w_var21, ↓P.upd21, ↓P.w_var22, ↓P.upd22, ↓P.w_var23, ↓P.upd23, ↓P.w_var24, ↓P.upd24, ↓P.w_var25, ↓P.upd25, P.at0, P.ixN0, P.at1, P.ixN1, P.at2, P.ixN2, P.at3, P.ixN3, P.at4, P.ixN4, P.at5, P.ixN5, P.at6, P.ixN6, P.at7, P.ixN7, P.at8, P.ixN8, P.at9, P.ixN9, P.at10, P.ixN10, P.at11, P.ixN11, P.at12, P.ixN12, ↓P.w_cM, ↓P.w_opM, ↓P.w_unM, ↓P.w_blE, ↓P.w_andVM, ↓P.w_orVM, ↓P.w_notVM, ↓P.w_ifM, ↓P.w_chainM, ↓P.w_nilM, ↓P.w_consM, P.sizeL, ↓P.vals0, ↓P.vals1, ↓P.vals2, ↓P.vals3, ↓P.vals4, ↓P.vals5, ↓P.vals6, ↓P.vals7, ↓P.vals8, ↓P.vals9, ↓P.vals10, ↓P.vals11, ↓P.vals12, ↓P.w_tupM, ↓P.w_lstM, ↓P.w_lstC, ↓P.w_cbM, ↓P.w_tstM, ↓P.w_tandM, ↓P.w_torM, ↓P.w_tnotM, ↓P.w_tyesM, ↓P.s_nxS, ↓P.s_bkS, ↓P.s_ctS, ↓P.s_retN, ↓P.s_noS, ↓P.s_seqS, ↓P.s_retS, ↓P.s_dropS, ↓P.s_ifS, ↓P.s_setS, ↓P.s_asgS, ↓P.w_nameG, ↓P.w_nilG, ↓P.w_consG, ↓P.w_tupG1, ↓P.w_tupG2, ↓P.w_tupG3, ↓P.w_tupG4, ↓P.parK_eq, ↓P.par3K_eq, ↓P.s_parS, ↓P.s_par3S, ↓P.augK_eq, ↓P.s_aug0, ↓P.s_aug1, ↓P.s_aug2, ↓P.s_aug3, ↓P.s_aug4, ↓P.s_aug5, ↓P.s_aug6, ↓P.s_aug7, ↓P.s_aug8, ↓P.s_aug9, ↓P.s_aug10, ↓P.s_aug11, ↓P.s_aug12, ↓P.s_aug13, ↓P.s_aug14, ↓P.s_aug15, ↓P.s_loop0, ↓P.s_loop1, ↓P.s_forS, ↓P.cellK_eq, P.lstCK_eq, P.lstK_eq, ↓P.seqVK_l, ↓P.seqVK_f, ↓P.tupVK_eq, P.rng1K_eq, ↓P.tup1K_eq, ↓P.str1K_eq, ↓P.intK_eq, P.strsK_eq, P.v_sub, P.v_lt, P.v_le, P.v_gt, P.v_ge, ↓P.v_mul, ↓P.v_fdiv, ↓P.v_mod, P.v_pow, P.v_addI, P.v_addT, P.v_addL, P.v_eqI, P.v_neI, P.v_eqS, P.v_neS, P.v_isN, P.v_notN, ↓P.v_ixT, ↓P.v_ixL, ↓P.v_ixF, P.ixCK_l, P.ixCK_d, ↓P.v_ixC, ↓P.v_ixD, P.v_lenT, P.v_lenL, P.v_lenF, P.v_int, P.v_min2, P.v_max2, P.v_tupL, ↓P.w_callM, ↓P.w_callWN, ↓P.w_makeM, ↓P.w_makeN, ↓P.w_makeWN, ↓P.w_fldM, ↓P.v_fld, P.insK_eq, ↓P.v_fldC, ↓P.w_frM, P.v_frV, ↓P.v_frC, ↓P.w_bmC, ↓P.w_itSeqM, ↓P.w_itTupM, ↓P.w_rng1M, ↓P.w_subG, ↓P.w_setO, ↓P.v_append, ↓P.v_popAt, ↓P.w_lcN, ↓P.w_sortSetM, ↓P.w_body, ↓P.clsCK_eq, ↓P.clsK_v, ↓P.clsK_c, ↓P.w_callWn, ↓P.w_methM, ↓P.w_methW, ↓P.nonK_eq, ↓P.w_makeW, ↓P.insPK_eq, ↓P.s_setfS, ↓P.v_isi, P.tnE_v, P.tnP_non, P.tnP_bl, P.tnP_int, P.tnP_str, P.tnP_tup, P.tnP_lst, P.tnP_ins, ↓P.w_enumM, ↓P.w_starM, P.seqE_t, P.seqE_l, P.lstE_l, P.lstE_f, ↓P.w_nxM, ↓P.w_nxT, ↓P.w_propN, ↓P.w_gIxM, ↓P.w_slM, ↓P.w_noPM, ↓P.w_partM, P.v_slT, P.v_slL, P.v_frlL, ↓P.w_revM, P.v_all, P.v_any, P.blsOf_map, P.v_in2, P.v_notIn2, P.v_eq2, P.v_ne2, ↓P.w_starC, P.isB_NoneType_int, P.isB_NoneType_bool, P.isB_NoneType_str, P.isB_NoneType_tuple, P.isB_NoneType_list, P.isB_NoneType_dict, P.isB_int_int, P.isB_int_bool, P.isB_int_str, P.isB_int_tuple, P.isB_int_list, P.isB_int_dict, P.isB_bool_int, P.isB_bool_bool, P.isB_bool_str, P.isB_bool_tuple, P.isB_bool_list, P.isB_bool_dict, P.isB_str_int, P.isB_str_bool, P.isB_str_str, P.isB_str_tuple, P.isB_str_list, P.isB_str_dict, P.isB_tuple_int, P.isB_tuple_bool, P.isB_tuple_str, P.isB_tuple_tuple, P.isB_tuple_list, P.isB_tuple_dict, P.isB_list_int, P.isB_list_bool, P.isB_list_str, P.isB_list_tuple, P.isB_list_list, P.isB_list_dict, P.isB_dict_int, P.isB_dict_bool, P.isB_dict_str, P.isB_dict_tuple, P.isB_dict_list, P.isB_dict_dict, P.valsE_nil, P.valsE_v, P.valsE_c, P.valsE_n, ↓P.valK_eq, ↓P.w_scope, P.startE_eq, ↓P.turnI_nx, ↓P.turnI_ct, ↓P.turnI_bk, ↓P.turnI_rt, ↓P.turnI_exc, ↓P.w_lc0, ↓P.w_lc1, P.ofString_inj, P.eqB_int, P.eqB_str, P.wipeR_nil, P.wipeR_cons, P.v_lenS, P.v_lenC, P.strVK_eq, ↓P.w_itStrM, P.dctE_d, P.dctE_t, P.dctE_l, P.dctE_f, P.v_listT, P.v_listL, P.v_listD, P.v_sortD, P.v_sortL, P.v_dictL, P.v_dictD, P.dzK_eq, ↓P.w_dictZip, P.strsOf_mapS, ↓P.w_tupIxM, ↓P.w_ownAdd, ↓P.w_dnew, ↓P.w_disp, P.dispK_1, P.keyP_str, P.v_orD, ↓P.w_sortSetTM, ↓P.w_lc2, P.strsK_app, P.rgK_eq, ↓P.w_rgList, T.fc_acts_Rule, T.fc_asked_rules_Run, T.fc_asks_Rule, T.fc_depth_Stack, T.fc_mark_Run, T.fc_names_Stack, T.fc_parts_Stack, T.fc_steps_Stack, T.fc_told_Run, T.ib_Rule, T.io_Rule_Rule, T.io_Rule_Run, T.io_Rule_Stack, T.iy_Rule_int, T.iy_Rule_bool, T.iy_Rule_str, T.iy_Rule_tuple, T.iy_Rule_list, T.iy_Rule_dict, T.ib_Run, T.io_Run_Rule, T.io_Run_Run, T.io_Run_Stack, T.iy_Run_int, T.iy_Run_bool, T.iy_Run_str, T.iy_Run_tuple, T.iy_Run_list, T.iy_Run_dict, T.ib_Stack, T.io_Stack_Rule, T.io_Stack_Run, T.io_Stack_Stack, T.iy_Stack_int, T.iy_Stack_bool, T.iy_Stack_str, T.iy_Stack_tuple, T.iy_Stack_list, T.iy_Stack_dict, T.pn_Rule_0, T.pv_Rule_0, T.lk_Rule_1_0, T.pn_Rule_1_0, T.pv_Rule_1_0, T.pn_Rule_1, T.pv_Rule_1, T.lk_Rule_2_0, T.pn_Rule_2_0, T.pv_Rule_2_0, T.lk_Rule_2_1, T.pn_Rule_2_1, T.pv_Rule_2_1, T.nc_Rule_action_for_0, T.nc_Rule_action_for_1, T.nc_Rule_action_for_2, T.pn_Run_0, T.pv_Run_0, T.lk_Run_1_0, T.pn_Run_1_0, T.pv_Run_1_0, T.pn_Run_1, T.pv_Run_1, T.lk_Run_2_0, T.pn_Run_2_0, T.pv_Run_2_0, T.lk_Run_2_1, T.pn_Run_2_1, T.pv_Run_2_1, T.pn_Run_2, T.pv_Run_2, T.lk_Run_3_0, T.pn_Run_3_0, T.pv_Run_3_0, T.lk_Run_3_1, T.pn_Run_3_1, T.pv_Run_3_1, T.lk_Run_3_2, T.pn_Run_3_2, T.pv_Run_3_2, T.nc_Run_ended_0, T.nc_Run_ended_1, T.nc_Run_ended_2, T.nc_Run_ended_3, T.nc_Run_outcome_0, T.nc_Run_outcome_1, T.nc_Run_outcome_2, T.nc_Run_outcome_3, T.pn_Stack_0, T.pv_Stack_0, T.lk_Stack_1_0, T.pn_Stack_1_0, T.pv_Stack_1_0, T.pn_Stack_1, T.pv_Stack_1, T.lk_Stack_2_0, T.pn_Stack_2_0, T.pv_Stack_2_0, T.lk_Stack_2_1, T.pn_Stack_2_1, T.pv_Stack_2_1, T.pn_Stack_2, T.pv_Stack_2, T.lk_Stack_3_0, T.pn_Stack_3_0, T.pv_Stack_3_0, T.lk_Stack_3_1, T.pn_Stack_3_1, T.pv_Stack_3_1, T.lk_Stack_3_2, T.pn_Stack_3_2, T.pv_Stack_3_2, T.pn_Stack_3, T.pv_Stack_3, T.lk_Stack_4_0, T.pn_Stack_4_0, T.pv_Stack_4_0, T.lk_Stack_4_1, T.pn_Stack_4_1, T.pv_Stack_4_1, T.lk_Stack_4_2, T.pn_Stack_4_2, T.pv_Stack_4_2, T.lk_Stack_4_3, T.pn_Stack_4_3, T.pv_Stack_4_3, T.nc_Stack___add___0, T.nc_Stack___add___1, T.nc_Stack___add___2, T.nc_Stack___add___3, T.nc_Stack___add___4, T.in_ok, T.in_bad, T.eq_reset, T.eq_die, T.eq_done, T.eq_none, T.eq_good, T.in_letter, T.tn_rule, eq_self, decide_true, decide_false, String.reduceEq, String.reduceNe, Bool.not_eq_eq_eq_not, List.length_map, List.map_cons, List.map_nil, List.replicate_succ, List.replicate_zero, decide_eq_true_eq, decide_eq_false_iff_not, Bool.not_eq_true', Bool.not_eq_false', Bool.not_true, Bool.not_false, if_true, if_false, List.getElem?_cons_zero, List.getElem?_cons_succ, List.set_cons_zero, List.set_cons_succ, List.cons_append, List.nil_append, List.length_cons, List.length_nil, and_true, true_and, ↓reduceIte, reduceCtorEq, Int.reduceLT, Int.reduceLE, Int.reduceEq, Int.reduceNe, Int.reduceAdd, Int.reduceSub, Int.reduceMul, Int.reduceDiv, Int.reduceMod, Int.reducePow, Int.reduceNeg, Int.reduceToNat, P.natAbs10, Nat.reduceAdd, Nat.reduceSub, Nat.reduceMul, Nat.reduceLT, Nat.reduceLeDiff, Nat.reduceEqDiff, Nat.reducePow, or_true, true_or, and_self, not_true_eq_false, not_false_eq_true, Bool.false_eq_true, Bool.true_eq_false, $ls,*])
theorem pl_sub (es : List Ent) : plPV (.sub es) = .lst (es.map plPV) := by rw [plPV, plPVs_map]
theorem ok_wrap {es : List Ent} (h : StOk es) (hd : deep es ≤ 2) : StOk [.sub es] := by
  have e : flat [.sub es] = flat es := by simp only [flat, flat1, List.append_nil]
  have l : Lim [.sub es] := ⟨by simp, by show (flat [.sub es]).length ≤ 12; rw [e]; exact h.lim.rules, by show (sortU ((flat [.sub es]).map _)).length ≤ 6; rw [e]; exact h.lim.names, by simp only [deep, deep1]; omega⟩
  exact ⟨l, by rw [Good1]; exact ⟨h.lim, h.good⟩, trivial⟩
theorem alike_run {es xs : List Ent} (h : ∀ A, M.run A es = M.run A xs) : AlikeP es xs := fun a _ => isIn_run (h a.get)
theorem both_le {es xs : List Ent} (h : ∀ x, x ∈ flat xs → x ∈ flat es) (k : StOk es) : (bothL es xs).length ≤ 6 := by
  refine Nat.le_trans (nodup_sub_len (nodup_sortU _) fun x hx => ?_) k.lim.names
  rcases List.mem_append.mp (mem_sortU.mp hx) with h1 | h1
  · exact h1
  · obtain ⟨y, hy, rfl⟩ := List.mem_map.mp (mem_sortU.mp h1)
    exact mem_sortU.mpr (List.mem_map.mpr ⟨y, h y hy, rfl⟩)
theorem made_eq {N : List Str} {F : List (Str × Tb)} (h : CalmR N F) (hN : N.length ≤ 6) (hNb : ∀ s ∈ N, s ∈ base4) {c : Nat} {ps : List PV} (es : List Ent) (he : es ∈ SS F c) (hp : ps = es.map plPV) {n : Nat} (hn : 8 ≤ n) {μ : Sto} {Q : EV → Sto → Prop} {X : XQ} (q : Q (.v (stPV es)) μ) :
    WpE (callS (call n f_l_made) 1 [.v (.lst ps)] μ) Q X := by
  subst hp
  obtain ⟨e1, e2⟩ := ss_ok h hN c es he
  exact made_sp 3 es e2.deep e2 (fun x hx => base4_ok _ (hNb _ (h.mem x (by rw [← e1]; exact hx)))) hn q
theorem isn_non2 : (P.isNon (EV.v PV.non)).getD false = true := (Eq.trans rfl rfl)
theorem turn_sp {n : Nat} (hn : 12 ≤ n) {N : List Str} {F : List (Str × Tb)} (h : CalmR N F) (hN : N.length ≤ 6) {c : Nat} {es : List Ent} (he : es ∈ SS F c) {x0 x1 x2 x3 x5 x6 x7 x8 x11 x12 : Option EV} {rest : List PV} {μ : Sto} {S : So → Prop}
    (q : ∀ x11, S (.nx [x0, x1, x2, x3, some (.v (.lst (F.map ruT))), x5, x6, x7, x8, some (.v (.lst (stPV (rl F) :: rest))), some (.v (stPV es)), x11, x12] μ)) :
    WpS (b_law_2 (call n) [x0, x1, x2, x3, some (.v (.lst (F.map ruT))), x5, x6, x7, x8, some (.v (.lst (stPV (rl F) :: rest))), some (.v (stPV es)), x11, x12] μ) S := by
  have s1 : rl F ∈ SS F c := by simp [SS]
  obtain ⟨e1, k1⟩ := ss_ok h hN c _ s1
  obtain ⟨e2, k2⟩ := ss_ok h hN c es he
  have hn1 : namesOf (rl F) = namesOf es := by unfold namesOf; rw [e1, e2]
  have hr : ∀ A, M.run A (rl F) = M.run A es := fun A => by rw [run_ss h hN s1 A, run_ss h hN he A]
  have hl := h.len
  simp_arith [b_law_2]
  refine first_difference_sp (by omega) (rl F) es k1 k2 (both_le (fun x hx => by rw [e1, ← e2]; exact hx) k1) (fun _ => ?_) (fun z => (z (alike_run hr)).elim)
  simp_arith [isn_non2]
  rw [← pl_rl F]
  refine modules_sp (rl F) (by rw [deep_rl]; omega) (by show (flat (rl F)).length ≤ 12; rw [e1]; omega) ?_
  simp_arith []
  have hnd : (namesOf (rl F)).Nodup := nodup_sortU _
  refine all_sp (by omega) (namesOf (rl F)) k1.lim.names hnd ?_
  simp_arith []
  rw [List.map_map]
  rw [pl_rl F]
  refine loop_list (EV.v ∘ ansPV) (fun r ρ μ' => (∀ a ∈ r, a ∈ allA (namesOf (rl F))) ∧ ∃ x11, ρ = [x0, x1, x2, x3, some (.v (.lst (F.map ruT))), x5, x6, x7, x8, some (.v (.lst (stPV (rl F) :: rest))), some (.v (stPV es)), x11, x12] ∧ μ' = μ) ?_ ?_ _ _ _ ⟨fun a ha => ha, _, rfl, rfl⟩
  · rintro a r ρ μ' ⟨hr', x11, rfl, rfl⟩
    have haN : ansN a = namesOf (rl F) := allA_ok hnd (hr' a List.mem_cons_self)
    have ha1 : AnsOk a (namesOf (rl F)) := ⟨by rw [haN]; exact hnd, fun x => by rw [haN]⟩
    have ha2 : AnsOk a (namesOf es) := by rw [← hn1]; exact ha1
    have ea : intsP (M.run a.get es).2 = intsN F.length := by rw [run_ss h hN he a.get]; exact intsP_range _
    have ec : eqB (.lst (intsN F.length)) (.lst (intsN F.length)) = some true := by rw [← intsP_range]; exact eqB_self (clean_ints _).1 (clean_ints _).2
    simp_arith [Function.comp, b_law_1]
    refine asked_sp (by omega) es k2 a ha2 ?_
    rw [ea]
    simp_arith [ec]
    refine ⟨by omega, ?_⟩
    refine blamed_sp (by omega) es k2 a ha2 ?_
    simp_arith []
    refine blamed_sp (by omega) (rl F) k1 a ha1 ?_
    rw [hr]
    simp_arith [eqB_self (clean_blame _).1 (clean_blame _).2]
    exact ⟨fun b hb => hr' b (List.mem_cons_of_mem _ hb), _, rfl⟩
  · rintro ρ μ' ⟨_, x11, rfl, rfl⟩
    exact q _
theorem law_ok {n : Nat} (hn : 20 ≤ n) (ns : List Int) {Q : EV → Sto → Prop} {X : XQ} (q : ∀ μ, Q (.v (.bl true)) μ) : WpE (call n f_law [.v (.frl (ns.map PV.int))] []) Q X := by
  rw [call_at _ (by omega), t_law]
  simp_arith [b_law]
  refine names_sp (by omega) ⟨0, 0, 0, Int.le_refl _, rfl⟩ fun N r1 hN hN3 hNb hr1 => ?_
  simp_arith []
  refine plain_sp N hN (by omega) 2 (by omega) (by omega) 6 (by omega) (by omega) hr1 fun es r2 hes hr2 => ?_
  have hok : StOk es := ⟨hes.lim (by omega) (by omega) (by omega), hes.good⟩
  have hw : ∀ x ∈ flat es, WordOk x.1 := fun x hx => base4_ok _ (hNb _ (hes.mem x hx))
  have hd := hes.deep
  have fw : flat [.sub es] = flat es := by simp only [flat, flat1, List.append_nil]
  have hokw := ok_wrap hok hd
  have ew : PV.lst [.lst (es.map plPV)] = .lst ([Ent.sub es].map plPV) := by rw [List.map_cons, pl_sub]; rfl
  simp_arith []
  refine calm_sp (by omega) hN (by omega) hr2 fun F r3 hF hr3 => ?_
  simp_arith []
  refine made_sp 3 es (by omega) hok hw (by omega) ?_
  simp_arith []
  rw [ew]
  refine made_sp 3 [.sub es] (by simp only [deep, deep1]; omega) hokw (fun x hx => hw x (by rw [fw] at hx; exact hx)) (by omega) ?_
  simp_arith []
  refine alike_sp (by omega) es [.sub es] hok hokw (both_le (fun x hx => by rw [fw] at hx; exact hx) hok) (fun _ => ?_) (fun c => (c (alike_run fun A => (run_wrap A es).symm)).elim)
  simp_arith []
  refine alike_sp (by omega) [.sub es] es hokw hok (both_le (fun x hx => by rw [fw]; exact hx) hokw) (fun _ => ?_) (fun c => (c (alike_run fun A => run_wrap A es)).elim)
  have hFl := hF.len
  simp_arith []
  refine taken_sp (by omega) hr3 (by omega) (by omega) fun c r4 hc hr4 => ?_
  have a3 : cutP (F.map ruT) none (some (c : Int)) = (F.take c).map ruT := by rw [cut_take, List.map_take]
  have a4 : cutP (F.map ruT) (some (c : Int)) none = (F.drop c).map ruT := by rw [cut_drop, List.map_drop]
  simp_arith [a3, a4]
  rw [List.map_map]
  refine lc_map (EV.v ∘ ruT) (fun x => PV.lst [ruT x]) F (fun x hx => ?_) (by rw [sizeL]; omega) ?_
  · simp_arith [Function.comp]
  simp_arith [a3, a4]
  have m0 : ∀ es, es ∈ SS F c → ∀ {ps : List PV}, ps = es.map plPV → ∀ {μ : Sto} {Q : EV → Sto → Prop} {X : XQ}, Q (.v (stPV es)) μ → WpE (callS (call (n - 1) f_l_made) 1 [.v (.lst ps)] μ) Q X := fun es he _ hp _ _ _ q => made_eq hF (by omega) hNb es he hp (by omega) q
  have s1 : rl F ∈ SS F c := by simp [SS]
  have s2 : [.sub (rl F)] ∈ SS F c := by simp [SS]
  have s3 : singles F ∈ SS F c := by simp [SS]
  have s4 : [.sub (rl (F.take c)), .sub [], .sub (rl (F.drop c))] ∈ SS F c := by simp [SS]
  have s5 : [.sub [.sub (rl (F.take c))], .sub (rl (F.drop c))] ∈ SS F c := by simp [SS]
  refine m0 _ s1 (pl_rl F).symm ?_
  simp_arith [sizeL]
  refine m0 _ s2 (by rw [List.map_cons, pl_sub, pl_rl]; rfl) ?_
  simp_arith [sizeL]
  refine m0 _ s3 (by unfold singles; rw [List.map_map]; refine List.map_congr_left fun x _ => ?_; show _ = plPV (.sub [.rule x.1 x.2]); rw [pl_sub]; rfl) ?_
  simp_arith [sizeL]
  refine m0 _ s4 (by rw [List.map_cons, List.map_cons, List.map_cons, pl_sub, pl_sub, pl_sub, pl_rl, pl_rl]; rfl) ?_
  simp_arith [sizeL]
  refine m0 _ s5 (by rw [List.map_cons, List.map_cons, pl_sub, pl_sub, List.map_cons, pl_sub, pl_rl, pl_rl]; rfl) ?_
  simp_arith [sizeL]
  refine turn_sp (by omega) hF (by omega) s1 fun y1 => ?_
  simp_arith []
  refine turn_sp (by omega) hF (by omega) s2 fun y2 => ?_
  simp_arith []
  refine turn_sp (by omega) hF (by omega) s3 fun y3 => ?_
  simp_arith []
  refine turn_sp (by omega) hF (by omega) s4 fun y4 => ?_
  simp_arith []
  refine turn_sp (by omega) hF (by omega) s5 fun y5 => ?_
  simp_arith []
  refine modules_sp es (by omega) hok.size ?_
  simp_arith []
  have hnd : (namesOf es).Nodup := nodup_sortU _
  have hnw : namesOf [.sub es] = namesOf es := by unfold namesOf; rw [fw]
  refine all_sp (by omega) (namesOf es) hok.lim.names hnd ?_
  simp_arith []
  rw [List.map_map]
  refine loop_list (EV.v ∘ ansPV) (fun r ρ μ => (∀ a ∈ r, a ∈ allA (namesOf es)) ∧ ∃ x0 x1 x2 x4 x7 x8 x9 x10 x11 x12 y, ρ = [x0, x1, x2, some (.v (.lst (es.map plPV))), x4, some (.v (stPV es)), some (.v (stPV [.sub es])), x7, x8, x9, x10, x11, x12] ∧ μ = [y]) ?_ ?_ _ _ _ ⟨fun a ha => ha, _, _, _, _, _, _, _, _, _, _, _, rfl, rfl⟩
  · rintro a r ρ μ ⟨hr, x0, x1, x2, x4, x7, x8, x9, x10, x11, x12, y, rfl, rfl⟩
    have haN : ansN a = namesOf es := allA_ok hnd (hr a List.mem_cons_self)
    have ha1 : AnsOk a (namesOf es) := ⟨by rw [haN]; exact hnd, fun x => by rw [haN]⟩
    have ha2 : AnsOk a (namesOf [.sub es]) := by rw [hnw]; exact ha1
    simp_arith [Function.comp, b_law_3]
    refine asked_sp (by omega) es hok a ha1 ?_
    simp_arith []
    refine asked_sp (by omega) [.sub es] hokw a ha2 ?_
    rw [run_wrap]
    simp_arith [eqB_self (clean_ints _).1 (clean_ints _).2]
    refine blamed_sp (by omega) es hok a ha1 ?_
    simp_arith []
    refine blamed_sp (by omega) [.sub es] hokw a ha2 ?_
    rw [run_wrap]
    simp_arith [eqB_self (clean_blame _).1 (clean_blame _).2]
    exact ⟨fun b hb => hr b (List.mem_cons_of_mem _ hb), _, _, _, _, _, _, _, _, _, _, _, rfl, rfl⟩
  · rintro ρ μ ⟨_, x0, x1, x2, x4, x7, x8, x9, x10, x11, x12, y, rfl, rfl⟩
    have f3 : flat [.sub [], .sub es, .sub []] = flat es := by simp only [flat, flat1, List.append_nil, List.nil_append]
    have ok3 : StOk [.sub [], .sub es, .sub []] := by
      have l0 : Lim ([] : List Ent) := ⟨by simp, by decide, by decide, by decide⟩
      refine ⟨⟨by simp, by show (flat _).length ≤ 12; rw [f3]; exact hok.lim.rules, by show (sortU ((flat _).map _)).length ≤ 6; rw [f3]; exact hok.lim.names, by simp only [deep, deep1]; omega⟩, ?_, ?_, ?_, trivial⟩
      · rw [Good1]; exact ⟨l0, trivial⟩
      · rw [Good1]; exact ⟨hok.lim, hok.good⟩
      · rw [Good1]; exact ⟨l0, trivial⟩
    have ep : PV.lst [.lst [], .lst (es.map plPV), .lst []] = .lst ([Ent.sub [], .sub es, .sub []].map plPV) := by rw [List.map_cons, List.map_cons, List.map_cons, pl_sub, pl_sub]; rfl
    have fl : freeL [.sub [], .sub es, .sub []] (([.sub [], .sub es, .sub []] : List Ent).length - 1) = [0, 1] := by
      have b0 : alikeB [.sub [], .sub es, .sub []] 0 = true := alikeB_iff.mpr (alike_run fun A => (run_mid1 A es).trans (run_mid2 A es).symm)
      have b1 : alikeB [.sub [], .sub es, .sub []] 1 = true := alikeB_iff.mpr (alike_run fun A => (run_mid1 A es).trans (run_mid3 A es).symm)
      show freeL _ (0 + 1 + 1) = _
      rw [freeL_succ, freeL_succ, if_pos b0, if_pos b1]
      rfl
    have e0 : eqB (.lst (intsP [0, 1])) (.lst [.int 0, .int 1]) = some true := eqB_self (clean_ints [0, 1]).1 (clean_ints [0, 1]).2
    simp_arith []
    rw [ep]
    refine made_sp 3 [.sub [], .sub es, .sub []] (by simp only [deep, deep1]; omega) ok3 (fun x hx => hw x (by rw [f3] at hx; exact hx)) (by omega) ?_
    simp_arith []
    refine free_pairs_sp (by omega) [.sub [], .sub es, .sub []] ok3 ?_
    rw [fl]
    simp_arith [e0]
    exact q _
end T


set_option Elab.async false
set_option linter.all false
set_option maxRecDepth 100000
set_option maxHeartbeats 4000000
namespace T
open PySem PySem.Spec L2 G P
def top (i : Nat) : Stmt := PySem.Challenge.pw_loginstacks_k19_whole_stacks_within_stac.main.body.getD i (.Pass ⟨0, 0, 0, 0⟩)
abbrev s_is_number : Stmt := (top 24)
def d_is_number : He.DefD := ⟨("is_number", none), "is_number", "is_number", defArgs s_is_number, defBody s_is_number, defScope s_is_number, [], []⟩
abbrev N_is_number : List Str := ["thing", "low", "high"]
abbrev P_is_number : List Str := ["thing", "low", "high"]
theorem sc_is_number : FnScope N_is_number P_is_number (defScope s_is_number) := ⟨rfl, rfl, rfl, by decide +kernel, rfl, by decide +kernel, by decide +kernel⟩
abbrev Fun_is_number (K : PySem.W.Frag) (f : Addr) (fd : FuncData) : Prop := FunD K "is_number" "is_number" (defArgs s_is_number) (defBody s_is_number) (defScope s_is_number) [] [] f fd
abbrev s_is_word : Stmt := (top 25)
def d_is_word : He.DefD := ⟨("is_word", none), "is_word", "is_word", defArgs s_is_word, defBody s_is_word, defScope s_is_word, [], []⟩
abbrev N_is_word : List Str := ["thing", "letter"]
abbrev P_is_word : List Str := ["thing"]
theorem sc_is_word : FnScope N_is_word P_is_word (defScope s_is_word) := ⟨rfl, rfl, rfl, by decide +kernel, rfl, by decide +kernel, by decide +kernel⟩
abbrev Fun_is_word (K : PySem.W.Frag) (f : Addr) (fd : FuncData) : Prop := FunD K "is_word" "is_word" (defArgs s_is_word) (defBody s_is_word) (defScope s_is_word) [] [] f fd
abbrev s_is_action : Stmt := (top 26)
def d_is_action : He.DefD := ⟨("is_action", none), "is_action", "is_action", defArgs s_is_action, defBody s_is_action, defScope s_is_action, [], []⟩
abbrev N_is_action : List Str := ["thing"]
abbrev P_is_action : List Str := ["thing"]
theorem sc_is_action : FnScope N_is_action P_is_action (defScope s_is_action) := ⟨rfl, rfl, rfl, by decide +kernel, rfl, by decide +kernel, by decide +kernel⟩
abbrev Fun_is_action (K : PySem.W.Frag) (f : Addr) (fd : FuncData) : Prop := FunD K "is_action" "is_action" (defArgs s_is_action) (defBody s_is_action) (defScope s_is_action) [] [] f fd
abbrev s_table_of : Stmt := (top 27)
def d_table_of : He.DefD := ⟨("table_of", none), "table_of", "table_of", defArgs s_table_of, defBody s_table_of, defScope s_table_of, [], []⟩
abbrev N_table_of : List Str := ["control", "one"]
abbrev P_table_of : List Str := ["control"]
theorem sc_table_of : FnScope N_table_of P_table_of (defScope s_table_of) := ⟨rfl, rfl, rfl, by decide +kernel, rfl, by decide +kernel, by decide +kernel⟩
abbrev Fun_table_of (K : PySem.W.Frag) (f : Addr) (fd : FuncData) : Prop := FunD K "table_of" "table_of" (defArgs s_table_of) (defBody s_table_of) (defScope s_table_of) [] [] f fd
abbrev s_Rule_init : Stmt := (inClass (top 28) 0)
def d_Rule_init : He.DefD := ⟨("Rule", some "__init__"), "__init__", "Rule.__init__", defArgs s_Rule_init, defBody s_Rule_init, defScope s_Rule_init, [], []⟩
abbrev N_Rule_init : List Str := ["self", "module", "control"]
abbrev P_Rule_init : List Str := ["self", "module", "control"]
theorem sc_Rule_init : FnScope N_Rule_init P_Rule_init (defScope s_Rule_init) := ⟨rfl, rfl, rfl, by decide +kernel, rfl, by decide +kernel, by decide +kernel⟩
abbrev Fun_Rule_init (K : PySem.W.Frag) (f : Addr) (fd : FuncData) : Prop := FunD K "__init__" "Rule.__init__" (defArgs s_Rule_init) (defBody s_Rule_init) (defScope s_Rule_init) [] [] f fd
abbrev s_Rule_action_for : Stmt := (inClass (top 28) 5)
def d_Rule_action_for : He.DefD := ⟨("Rule", some "action_for"), "action_for", "Rule.action_for", defArgs s_Rule_action_for, defBody s_Rule_action_for, defScope s_Rule_action_for, [], []⟩
abbrev N_Rule_action_for : List Str := ["self", "result"]
abbrev P_Rule_action_for : List Str := ["self", "result"]
theorem sc_Rule_action_for : FnScope N_Rule_action_for P_Rule_action_for (defScope s_Rule_action_for) := ⟨rfl, rfl, rfl, by decide +kernel, rfl, by decide +kernel, by decide +kernel⟩
abbrev Fun_Rule_action_for (K : PySem.W.Frag) (f : Addr) (fd : FuncData) : Prop := FunD K "action_for" "Rule.action_for" (defArgs s_Rule_action_for) (defBody s_Rule_action_for) (defScope s_Rule_action_for) [] [] f fd
abbrev s_Stack_init : Stmt := (inClass (top 34) 0)
def d_Stack_init : He.DefD := ⟨("Stack", some "__init__"), "__init__", "Stack.__init__", defArgs s_Stack_init, defBody s_Stack_init, defScope s_Stack_init, [], []⟩
abbrev N_Stack_init : List Str := ["self", "entries", "index", "entry", "is_stack", "rule"]
abbrev P_Stack_init : List Str := ["self", "entries"]
theorem sc_Stack_init : FnScope N_Stack_init P_Stack_init (defScope s_Stack_init) := ⟨rfl, rfl, rfl, by decide +kernel, rfl, by decide +kernel, by decide +kernel⟩
abbrev Fun_Stack_init (K : PySem.W.Frag) (f : Addr) (fd : FuncData) : Prop := FunD K "__init__" "Stack.__init__" (defArgs s_Stack_init) (defBody s_Stack_init) (defScope s_Stack_init) [] [] f fd
abbrev s_Stack___add__ : Stmt := (inClass (top 34) 7)
def d_Stack___add__ : He.DefD := ⟨("Stack", some "__add__"), "__add__", "Stack.__add__", defArgs s_Stack___add__, defBody s_Stack___add__, defScope s_Stack___add__, [], []⟩
abbrev N_Stack___add__ : List Str := ["self", "other", "parts"]
abbrev P_Stack___add__ : List Str := ["self", "other"]
theorem sc_Stack___add__ : FnScope N_Stack___add__ P_Stack___add__ (defScope s_Stack___add__) := ⟨rfl, rfl, rfl, by decide +kernel, rfl, by decide +kernel, by decide +kernel⟩
abbrev Fun_Stack___add__ (K : PySem.W.Frag) (f : Addr) (fd : FuncData) : Prop := FunD K "__add__" "Stack.__add__" (defArgs s_Stack___add__) (defBody s_Stack___add__) (defScope s_Stack___add__) [] [] f fd
abbrev s_steps_of : Stmt := (top 35)
def d_steps_of : He.DefD := ⟨("steps_of", none), "steps_of", "steps_of", defArgs s_steps_of, defBody s_steps_of, defScope s_steps_of, [], []⟩
abbrev N_steps_of : List Str := ["entry"]
abbrev P_steps_of : List Str := ["entry"]
theorem sc_steps_of : FnScope N_steps_of P_steps_of (defScope s_steps_of) := ⟨rfl, rfl, rfl, by decide +kernel, rfl, by decide +kernel, by decide +kernel⟩
abbrev Fun_steps_of (K : PySem.W.Frag) (f : Addr) (fd : FuncData) : Prop := FunD K "steps_of" "steps_of" (defArgs s_steps_of) (defBody s_steps_of) (defScope s_steps_of) [] [] f fd
abbrev s_firsts_of : Stmt := (top 36)
def d_firsts_of : He.DefD := ⟨("firsts_of", none), "firsts_of", "firsts_of", defArgs s_firsts_of, defBody s_firsts_of, defScope s_firsts_of, [], []⟩
abbrev N_firsts_of : List Str := ["stack", "first", "found", "entry"]
abbrev P_firsts_of : List Str := ["stack", "first"]
theorem sc_firsts_of : FnScope N_firsts_of P_firsts_of (defScope s_firsts_of) := ⟨rfl, rfl, rfl, by decide +kernel, rfl, by decide +kernel, by decide +kernel⟩
abbrev Fun_firsts_of (K : PySem.W.Frag) (f : Addr) (fd : FuncData) : Prop := FunD K "firsts_of" "firsts_of" (defArgs s_firsts_of) (defBody s_firsts_of) (defScope s_firsts_of) [] [] f fd
abbrev s_Run_init : Stmt := (inClass (top 42) 0)
def d_Run_init : He.DefD := ⟨("Run", some "__init__"), "__init__", "Run.__init__", defArgs s_Run_init, defBody s_Run_init, defScope s_Run_init, [], []⟩
abbrev N_Run_init : List Str := ["self", "stack", "results"]
abbrev P_Run_init : List Str := ["self", "stack", "results"]
theorem sc_Run_init : FnScope N_Run_init P_Run_init (defScope s_Run_init) := ⟨rfl, rfl, rfl, by decide +kernel, rfl, by decide +kernel, by decide +kernel⟩
abbrev Fun_Run_init (K : PySem.W.Frag) (f : Addr) (fd : FuncData) : Prop := FunD K "__init__" "Run.__init__" (defArgs s_Run_init) (defBody s_Run_init) (defScope s_Run_init) [] [] f fd
abbrev s_Run_ended : Stmt := (inClass (top 42) 1)
def d_Run_ended : He.DefD := ⟨("Run", some "ended"), "ended", "Run.ended", defArgs s_Run_ended, defBody s_Run_ended, defScope s_Run_ended, [], []⟩
abbrev N_Run_ended : List Str := ["self", "stack", "first", "mark", "begin", "index", "firsts", "entry", "number", "action"]
abbrev P_Run_ended : List Str := ["self", "stack", "first", "mark"]
theorem sc_Run_ended : FnScope N_Run_ended P_Run_ended (defScope s_Run_ended) := ⟨rfl, rfl, rfl, by decide +kernel, rfl, by decide +kernel, by decide +kernel⟩
abbrev Fun_Run_ended (K : PySem.W.Frag) (f : Addr) (fd : FuncData) : Prop := FunD K "ended" "Run.ended" (defArgs s_Run_ended) (defBody s_Run_ended) (defScope s_Run_ended) [] [] f fd
abbrev s_Run_outcome : Stmt := (inClass (top 42) 2)
def d_Run_outcome : He.DefD := ⟨("Run", some "outcome"), "outcome", "Run.outcome", defArgs s_Run_outcome, defBody s_Run_outcome, defScope s_Run_outcome, [], []⟩
abbrev N_Run_outcome : List Str := ["self"]
abbrev P_Run_outcome : List Str := ["self"]
theorem sc_Run_outcome : FnScope N_Run_outcome P_Run_outcome (defScope s_Run_outcome) := ⟨rfl, rfl, rfl, by decide +kernel, rfl, by decide +kernel, by decide +kernel⟩
abbrev Fun_Run_outcome (K : PySem.W.Frag) (f : Addr) (fd : FuncData) : Prop := FunD K "outcome" "Run.outcome" (defArgs s_Run_outcome) (defBody s_Run_outcome) (defScope s_Run_outcome) [] [] f fd
abbrev s_marked : Stmt := (top 43)
def d_marked : He.DefD := ⟨("marked", none), "marked", "marked", defArgs s_marked, defBody s_marked, defScope s_marked, [], []⟩
abbrev N_marked : List Str := ["action", "mark", "begin", "number"]
abbrev P_marked : List Str := ["action", "mark", "begin", "number"]
theorem sc_marked : FnScope N_marked P_marked (defScope s_marked) := ⟨rfl, rfl, rfl, by decide +kernel, rfl, by decide +kernel, by decide +kernel⟩
abbrev Fun_marked (K : PySem.W.Frag) (f : Addr) (fd : FuncData) : Prop := FunD K "marked" "marked" (defArgs s_marked) (defBody s_marked) (defScope s_marked) [] [] f fd
abbrev s_need_answers : Stmt := (top 44)
def d_need_answers : He.DefD := ⟨("need_answers", none), "need_answers", "need_answers", defArgs s_need_answers, defBody s_need_answers, defScope s_need_answers, [], []⟩
abbrev N_need_answers : List Str := ["modules", "answers", "is_whole", "name"]
abbrev P_need_answers : List Str := ["modules", "answers", "is_whole"]
theorem sc_need_answers : FnScope N_need_answers P_need_answers (defScope s_need_answers) := ⟨rfl, rfl, rfl, by decide +kernel, rfl, by decide +kernel, by decide +kernel⟩
abbrev Fun_need_answers (K : PySem.W.Frag) (f : Addr) (fd : FuncData) : Prop := FunD K "need_answers" "need_answers" (defArgs s_need_answers) (defBody s_need_answers) (defScope s_need_answers) [] [] f fd
abbrev s_asked : Stmt := (top 45)
def d_asked : He.DefD := ⟨("asked", none), "asked", "asked", defArgs s_asked, defBody s_asked, defScope s_asked, [], []⟩
abbrev N_asked : List Str := ["stack", "answers"]
abbrev P_asked : List Str := ["stack", "answers"]
theorem sc_asked : FnScope N_asked P_asked (defScope s_asked) := ⟨rfl, rfl, rfl, by decide +kernel, rfl, by decide +kernel, by decide +kernel⟩
abbrev Fun_asked (K : PySem.W.Frag) (f : Addr) (fd : FuncData) : Prop := FunD K "asked" "asked" (defArgs s_asked) (defBody s_asked) (defScope s_asked) [] [] f fd
abbrev s_blamed : Stmt := (top 46)
def d_blamed : He.DefD := ⟨("blamed", none), "blamed", "blamed", defArgs s_blamed, defBody s_blamed, defScope s_blamed, [], []⟩
abbrev N_blamed : List Str := ["stack", "answers"]
abbrev P_blamed : List Str := ["stack", "answers"]
theorem sc_blamed : FnScope N_blamed P_blamed (defScope s_blamed) := ⟨rfl, rfl, rfl, by decide +kernel, rfl, by decide +kernel, by decide +kernel⟩
abbrev Fun_blamed (K : PySem.W.Frag) (f : Addr) (fd : FuncData) : Prop := FunD K "blamed" "blamed" (defArgs s_blamed) (defBody s_blamed) (defScope s_blamed) [] [] f fd
abbrev s_all_answers : Stmt := (top 48)
def d_all_answers : He.DefD := ⟨("all_answers", none), "all_answers", "all_answers", defArgs s_all_answers, defBody s_all_answers, defScope s_all_answers, [], []⟩
abbrev N_all_answers : List Str := ["modules", "found", "name", "answers", "result"]
abbrev P_all_answers : List Str := ["modules"]
theorem sc_all_answers : FnScope N_all_answers P_all_answers (defScope s_all_answers) := ⟨rfl, rfl, rfl, by decide +kernel, rfl, by decide +kernel, by decide +kernel⟩
abbrev Fun_all_answers (K : PySem.W.Frag) (f : Addr) (fd : FuncData) : Prop := FunD K "all_answers" "all_answers" (defArgs s_all_answers) (defBody s_all_answers) (defScope s_all_answers) [] [] f fd
abbrev s_both_outcomes : Stmt := (top 50)
def d_both_outcomes : He.DefD := ⟨("both_outcomes", none), "both_outcomes", "both_outcomes", defArgs s_both_outcomes, defBody s_both_outcomes, defScope s_both_outcomes, [], []⟩
abbrev N_both_outcomes : List Str := ["one", "other", "names", "answers"]
abbrev P_both_outcomes : List Str := ["one", "other"]
theorem sc_both_outcomes : FnScope N_both_outcomes P_both_outcomes (defScope s_both_outcomes) := ⟨rfl, rfl, rfl, by decide +kernel, rfl, by decide +kernel, by decide +kernel⟩
abbrev Fun_both_outcomes (K : PySem.W.Frag) (f : Addr) (fd : FuncData) : Prop := FunD K "both_outcomes" "both_outcomes" (defArgs s_both_outcomes) (defBody s_both_outcomes) (defScope s_both_outcomes) [] [] f fd
abbrev s_first_difference : Stmt := (top 51)
def d_first_difference : He.DefD := ⟨("first_difference", none), "first_difference", "first_difference", defArgs s_first_difference, defBody s_first_difference, defScope s_first_difference, [], []⟩
abbrev N_first_difference : List Str := ["one", "other", "answers", "here", "there"]
abbrev P_first_difference : List Str := ["one", "other"]
theorem sc_first_difference : FnScope N_first_difference P_first_difference (defScope s_first_difference) := ⟨rfl, rfl, rfl, by decide +kernel, rfl, by decide +kernel, by decide +kernel⟩
abbrev Fun_first_difference (K : PySem.W.Frag) (f : Addr) (fd : FuncData) : Prop := FunD K "first_difference" "first_difference" (defArgs s_first_difference) (defBody s_first_difference) (defScope s_first_difference) [] [] f fd
abbrev s_alike : Stmt := (top 52)
def d_alike : He.DefD := ⟨("alike", none), "alike", "alike", defArgs s_alike, defBody s_alike, defScope s_alike, [], []⟩
abbrev N_alike : List Str := ["one", "other"]
abbrev P_alike : List Str := ["one", "other"]
theorem sc_alike : FnScope N_alike P_alike (defScope s_alike) := ⟨rfl, rfl, rfl, by decide +kernel, rfl, by decide +kernel, by decide +kernel⟩
abbrev Fun_alike (K : PySem.W.Frag) (f : Addr) (fd : FuncData) : Prop := FunD K "alike" "alike" (defArgs s_alike) (defBody s_alike) (defScope s_alike) [] [] f fd
abbrev s_free_pairs : Stmt := (top 54)
def d_free_pairs : He.DefD := ⟨("free_pairs", none), "free_pairs", "free_pairs", defArgs s_free_pairs, defBody s_free_pairs, defScope s_free_pairs, [], []⟩
abbrev N_free_pairs : List Str := ["stack", "found", "index", "one", "other", "parts"]
abbrev P_free_pairs : List Str := ["stack"]
theorem sc_free_pairs : FnScope N_free_pairs P_free_pairs (defScope s_free_pairs) := ⟨rfl, rfl, rfl, by decide +kernel, rfl, by decide +kernel, by decide +kernel⟩
abbrev Fun_free_pairs (K : PySem.W.Frag) (f : Addr) (fd : FuncData) : Prop := FunD K "free_pairs" "free_pairs" (defArgs s_free_pairs) (defBody s_free_pairs) (defScope s_free_pairs) [] [] f fd
abbrev s_l_taken : Stmt := (top 56)
def d_l_taken : He.DefD := ⟨("_law_taken", none), "_law_taken", "_law_taken", defArgs s_l_taken, defBody s_l_taken, defScope s_l_taken, [], []⟩
abbrev N_l_taken : List Str := ["_law_row", "_law_many", "_law_found", "_law_cell"]
abbrev P_l_taken : List Str := ["_law_row", "_law_many"]
theorem sc_l_taken : FnScope N_l_taken P_l_taken (defScope s_l_taken) := ⟨rfl, rfl, rfl, by decide +kernel, rfl, by decide +kernel, by decide +kernel⟩
abbrev Fun_l_taken (K : PySem.W.Frag) (f : Addr) (fd : FuncData) : Prop := FunD K "_law_taken" "_law_taken" (defArgs s_l_taken) (defBody s_l_taken) (defScope s_l_taken) [] [] f fd
abbrev s_l_pick : Stmt := (top 57)
def d_l_pick : He.DefD := ⟨("_law_pick", none), "_law_pick", "_law_pick", defArgs s_l_pick, defBody s_l_pick, defScope s_l_pick, [], []⟩
abbrev N_l_pick : List Str := ["_law_row", "_law_some"]
abbrev P_l_pick : List Str := ["_law_row", "_law_some"]
theorem sc_l_pick : FnScope N_l_pick P_l_pick (defScope s_l_pick) := ⟨rfl, rfl, rfl, by decide +kernel, rfl, by decide +kernel, by decide +kernel⟩
abbrev Fun_l_pick (K : PySem.W.Frag) (f : Addr) (fd : FuncData) : Prop := FunD K "_law_pick" "_law_pick" (defArgs s_l_pick) (defBody s_l_pick) (defScope s_l_pick) [] [] f fd
abbrev s_l_table : Stmt := (top 58)
def d_l_table : He.DefD := ⟨("_law_table", none), "_law_table", "_law_table", defArgs s_l_table, defBody s_l_table, defScope s_l_table, [], []⟩
abbrev N_l_table : List Str := ["_law_row", "_law_plain_here", "_law_words", "_law_acts", "_law_k"]
abbrev P_l_table : List Str := ["_law_row", "_law_plain_here"]
theorem sc_l_table : FnScope N_l_table P_l_table (defScope s_l_table) := ⟨rfl, rfl, rfl, by decide +kernel, rfl, by decide +kernel, by decide +kernel⟩
abbrev Fun_l_table (K : PySem.W.Frag) (f : Addr) (fd : FuncData) : Prop := FunD K "_law_table" "_law_table" (defArgs s_l_table) (defBody s_l_table) (defScope s_l_table) [] [] f fd
abbrev s_l_plain : Stmt := (top 59)
def d_l_plain : He.DefD := ⟨("_law_plain", none), "_law_plain", "_law_plain", defArgs s_l_plain, defBody s_l_plain, defScope s_l_plain, [], []⟩
abbrev N_l_plain : List Str := ["_law_row", "_law_names_here", "_law_most", "_law_deep", "_law_plain_here", "_law_found", "_law_left", "_law_k", "_law_inner"]
abbrev P_l_plain : List Str := ["_law_row", "_law_names_here", "_law_most", "_law_deep", "_law_plain_here"]
theorem sc_l_plain : FnScope N_l_plain P_l_plain (defScope s_l_plain) := ⟨rfl, rfl, rfl, by decide +kernel, rfl, by decide +kernel, by decide +kernel⟩
abbrev Fun_l_plain (K : PySem.W.Frag) (f : Addr) (fd : FuncData) : Prop := FunD K "_law_plain" "_law_plain" (defArgs s_l_plain) (defBody s_l_plain) (defScope s_l_plain) [] [] f fd
abbrev s_l_names : Stmt := (top 60)
def d_l_names : He.DefD := ⟨("_law_names", none), "_law_names", "_law_names", defArgs s_l_names, defBody s_l_names, defScope s_l_names, [], []⟩
abbrev N_l_names : List Str := ["_law_row", "_law_most", "_law_some", "_law_found", "_law_k"]
abbrev P_l_names : List Str := ["_law_row", "_law_most"]
theorem sc_l_names : FnScope N_l_names P_l_names (defScope s_l_names) := ⟨rfl, rfl, rfl, by decide +kernel, rfl, by decide +kernel, by decide +kernel⟩
abbrev Fun_l_names (K : PySem.W.Frag) (f : Addr) (fd : FuncData) : Prop := FunD K "_law_names" "_law_names" (defArgs s_l_names) (defBody s_l_names) (defScope s_l_names) [] [] f fd
abbrev s_l_rules : Stmt := (top 61)
def d_l_rules : He.DefD := ⟨("_law_rules", none), "_law_rules", "_law_rules", defArgs s_l_rules, defBody s_l_rules, defScope s_l_rules, [], []⟩
abbrev N_l_rules : List Str := ["_law_plain_here", "_law_found", "_law_entry"]
abbrev P_l_rules : List Str := ["_law_plain_here"]
theorem sc_l_rules : FnScope N_l_rules P_l_rules (defScope s_l_rules) := ⟨rfl, rfl, rfl, by decide +kernel, rfl, by decide +kernel, by decide +kernel⟩
abbrev Fun_l_rules (K : PySem.W.Frag) (f : Addr) (fd : FuncData) : Prop := FunD K "_law_rules" "_law_rules" (defArgs s_l_rules) (defBody s_l_rules) (defScope s_l_rules) [] [] f fd
abbrev s_l_modules : Stmt := (top 62)
def d_l_modules : He.DefD := ⟨("_law_modules", none), "_law_modules", "_law_modules", defArgs s_l_modules, defBody s_l_modules, defScope s_l_modules, [], []⟩
abbrev N_l_modules : List Str := ["_law_plain_here", "_law_rule"]
abbrev P_l_modules : List Str := ["_law_plain_here"]
theorem sc_l_modules : FnScope N_l_modules P_l_modules (defScope s_l_modules) := ⟨rfl, rfl, rfl, by decide +kernel, rfl, by decide +kernel, by decide +kernel⟩
abbrev Fun_l_modules (K : PySem.W.Frag) (f : Addr) (fd : FuncData) : Prop := FunD K "_law_modules" "_law_modules" (defArgs s_l_modules) (defBody s_l_modules) (defScope s_l_modules) [] [] f fd
abbrev s_l_made : Stmt := (top 63)
def d_l_made : He.DefD := ⟨("_law_made", none), "_law_made", "_law_made", defArgs s_l_made, defBody s_l_made, defScope s_l_made, [], []⟩
abbrev N_l_made : List Str := ["_law_plain_here", "_law_found", "_law_entry"]
abbrev P_l_made : List Str := ["_law_plain_here"]
theorem sc_l_made : FnScope N_l_made P_l_made (defScope s_l_made) := ⟨rfl, rfl, rfl, by decide +kernel, rfl, by decide +kernel, by decide +kernel⟩
abbrev Fun_l_made (K : PySem.W.Frag) (f : Addr) (fd : FuncData) : Prop := FunD K "_law_made" "_law_made" (defArgs s_l_made) (defBody s_l_made) (defScope s_l_made) [] [] f fd
abbrev s_l_all : Stmt := (top 64)
def d_l_all : He.DefD := ⟨("_law_all", none), "_law_all", "_law_all", defArgs s_l_all, defBody s_l_all, defScope s_l_all, [], []⟩
abbrev N_l_all : List Str := ["_law_names_here", "_law_found", "_law_name", "_law_longer", "_law_some", "_law_result"]
abbrev P_l_all : List Str := ["_law_names_here"]
theorem sc_l_all : FnScope N_l_all P_l_all (defScope s_l_all) := ⟨rfl, rfl, rfl, by decide +kernel, rfl, by decide +kernel, by decide +kernel⟩
abbrev Fun_l_all (K : PySem.W.Frag) (f : Addr) (fd : FuncData) : Prop := FunD K "_law_all" "_law_all" (defArgs s_l_all) (defBody s_l_all) (defScope s_l_all) [] [] f fd
abbrev s_l_calm : Stmt := (top 65)
def d_l_calm : He.DefD := ⟨("_law_calm", none), "_law_calm", "_law_calm", defArgs s_l_calm, defBody s_l_calm, defScope s_l_calm, [], []⟩
abbrev N_l_calm : List Str := ["_law_row", "_law_names_here", "_law_most", "_law_acts", "_law_found", "_law_k", "_law_j"]
abbrev P_l_calm : List Str := ["_law_row", "_law_names_here", "_law_most"]
theorem sc_l_calm : FnScope N_l_calm P_l_calm (defScope s_l_calm) := ⟨rfl, rfl, rfl, by decide +kernel, rfl, by decide +kernel, by decide +kernel⟩
abbrev Fun_l_calm (K : PySem.W.Frag) (f : Addr) (fd : FuncData) : Prop := FunD K "_law_calm" "_law_calm" (defArgs s_l_calm) (defBody s_l_calm) (defScope s_l_calm) [] [] f fd
abbrev s_law : Stmt := (top 66)
def d_law : He.DefD := ⟨("law", none), "law", "law", defArgs s_law, defBody s_law, defScope s_law, [], []⟩
abbrev N_law : List Str := ["_law_script", "_law_row", "_law_names_here", "_law_plain_here", "_law_calm_here", "_law_stack", "_law_wrapped", "_law_cut", "_law_some", "_law_stacks", "_law_one", "_law_answers", "_law_rule"]
abbrev P_law : List Str := ["_law_script"]
theorem sc_law : FnScope N_law P_law (defScope s_law) := ⟨rfl, rfl, rfl, by decide +kernel, rfl, by decide +kernel, by decide +kernel⟩
abbrev Fun_law (K : PySem.W.Frag) (f : Addr) (fd : FuncData) : Prop := FunD K "law" "law" (defArgs s_law) (defBody s_law) (defScope s_law) [] [] f fd
abbrev CTK (K : PySem.W.Frag) : Str → Addr := fun c => He.ga K c
abbrev spD (K : PySem.W.Frag) (n f k : Nat) : Sp := spOf K (CTK K) (call n f) k
abbrev spS (K : PySem.W.Frag) (n f k : Nat) : Sp := spStar K (CTK K) (call n f) k
structure Txt (K : PySem.W.Frag) (mg : Str → Option Value) : Prop where
  b_all : mg "all" = none
  b_bool : mg "bool" = none
  b_dict : mg "dict" = none
  b_enumerate : mg "enumerate" = none
  b_int : mg "int" = none
  b_isinstance : mg "isinstance" = none
  b_len : mg "len" = none
  b_list : mg "list" = none
  b_max : mg "max" = none
  b_min : mg "min" = none
  b_range : mg "range" = none
  b_set : mg "set" = none
  b_sorted : mg "sorted" = none
  b_str : mg "str" = none
  b_tuple : mg "tuple" = none
  b_zip : mg "zip" = none
  c_Rule : GlV mg "Rule" (.ref (CTK K "Rule"))
  c_Run : GlV mg "Run" (.ref (CTK K "Run"))
  c_Stack : GlV mg "Stack" (.ref (CTK K "Stack"))
  c_MOST_LETTERS : GlV mg "MOST_LETTERS" (.int 8)
  c_LETTERS : GlV mg "LETTERS" (.str "abcdefghijklmnopqrstuvwxyz")
  c_MOST_JUMP : GlV mg "MOST_JUMP" (.int 9)
  c_ACTIONS : GlV mg "ACTIONS" (.ref (He.ga K "ACTIONS"))
  r_ACTIONS : ∀ H, Rep K (CTK K) H (.ref (He.ga K "ACTIONS")) g_ACTIONS
  c_RESULTS : GlV mg "RESULTS" (.ref (He.ga K "RESULTS"))
  r_RESULTS : ∀ H, Rep K (CTK K) H (.ref (He.ga K "RESULTS")) g_RESULTS
  c_MOST_ENTRIES : GlV mg "MOST_ENTRIES" (.int 12)
  c_MOST_MODULES : GlV mg "MOST_MODULES" (.int 6)
  c_MOST_RULES : GlV mg "MOST_RULES" (.int 12)
  c_MOST_DEPTH : GlV mg "MOST_DEPTH" (.int 3)
  c_NONE : GlV mg "NONE" (.ref (He.ga K "NONE"))
  r_NONE : ∀ H, Rep K (CTK K) H (.ref (He.ga K "NONE")) g_NONE
  c_GOOD : GlV mg "GOOD" (.ref (He.ga K "GOOD"))
  r_GOOD : ∀ H, Rep K (CTK K) H (.ref (He.ga K "GOOD")) g_GOOD
  c_DONE : GlV mg "DONE" (.str "done")
  c_DIE : GlV mg "DIE" (.str "die")
  c_IN : GlV mg "IN" (.str "in")
  c_OUT : GlV mg "OUT" (.str "out")
  c_OK : GlV mg "OK" (.str "ok")
  c_BAD : GlV mg "BAD" (.str "bad")
  c_RESET : GlV mg "RESET" (.str "reset")
  k_RESULTS : TupK K (He.ga K "RESULTS") k_RESULTS
  n_acts : FldOk K (CTK K) n_acts "acts"
  n_asked_rules : FldOk K (CTK K) n_asked_rules "asked_rules"
  n_asks : FldOk K (CTK K) n_asks "asks"
  n_depth : FldOk K (CTK K) n_depth "depth"
  n_mark : FldOk K (CTK K) n_mark "mark"
  n_names : FldOk K (CTK K) n_names "names"
  n_parts : FldOk K (CTK K) n_parts "parts"
  n_steps : FldOk K (CTK K) n_steps "steps"
  n_told : FldOk K (CTK K) n_told "told"
  isf : IsF K (CTK K) clss
  add_Stack : AddC K (CTK K "Stack")
structure All (P : Program) (w : World) (K : PySem.W.Frag) (mg : Str → Option Value) (base : Heap) (n : Nat) : Prop where
  D_is_number : DefOk P w K mg base (2 * n) "is_number" P_is_number (spD K n f_is_number 3)
  D_is_word : DefOk P w K mg base (2 * n) "is_word" P_is_word (spD K n f_is_word 1)
  D_is_action : DefOk P w K mg base (2 * n) "is_action" P_is_action (spD K n f_is_action 1)
  D_table_of : DefOk P w K mg base (2 * n) "table_of" P_table_of (spD K n f_table_of 1)
  D_Rule_init : MakeOk P w K mg base (2 * n) "Rule" (CTK K "Rule") P_Rule_init (spD K n f_Rule_init 3)
  D_Rule_action_for : MethOk P w K mg base (2 * n) (CTK K "Rule") "action_for" P_Rule_action_for (spD K n f_Rule_action_for 2)
  D_Stack_init : MakeStar P w K mg base (2 * n) "Stack" (CTK K "Stack") (spS K n f_Stack_init 1)
  D_Stack___add__ : MethOk P w K mg base (2 * n) (CTK K "Stack") "__add__" P_Stack___add__ (spD K n f_Stack___add__ 2)
  D_steps_of : DefOk P w K mg base (2 * n) "steps_of" P_steps_of (spD K n f_steps_of 1)
  D_firsts_of : DefOk P w K mg base (2 * n) "firsts_of" P_firsts_of (spD K n f_firsts_of 2)
  D_Run_init : MakeOk P w K mg base (2 * n) "Run" (CTK K "Run") P_Run_init (spD K n f_Run_init 3)
  D_Run_ended : MethOk P w K mg base (2 * n) (CTK K "Run") "ended" P_Run_ended (spD K n f_Run_ended 4)
  D_Run_outcome : MethOk P w K mg base (2 * n) (CTK K "Run") "outcome" P_Run_outcome (spD K n f_Run_outcome 1)
  D_marked : DefOk P w K mg base (2 * n) "marked" P_marked (spD K n f_marked 4)
  D_need_answers : DefOk P w K mg base (2 * n) "need_answers" P_need_answers (spD K n f_need_answers 3)
  D_asked : DefOk P w K mg base (2 * n) "asked" P_asked (spD K n f_asked 2)
  D_blamed : DefOk P w K mg base (2 * n) "blamed" P_blamed (spD K n f_blamed 2)
  D_all_answers : DefOk P w K mg base (2 * n) "all_answers" P_all_answers (spD K n f_all_answers 1)
  D_both_outcomes : DefOk P w K mg base (2 * n) "both_outcomes" P_both_outcomes (spD K n f_both_outcomes 2)
  D_first_difference : DefOk P w K mg base (2 * n) "first_difference" P_first_difference (spD K n f_first_difference 2)
  D_alike : DefOk P w K mg base (2 * n) "alike" P_alike (spD K n f_alike 2)
  D_free_pairs : DefOk P w K mg base (2 * n) "free_pairs" P_free_pairs (spD K n f_free_pairs 1)
  D_l_taken : DefOk P w K mg base (2 * n) "_law_taken" P_l_taken (spD K n f_l_taken 2)
  D_l_pick : DefOk P w K mg base (2 * n) "_law_pick" P_l_pick (spD K n f_l_pick 2)
  D_l_table : DefOk P w K mg base (2 * n) "_law_table" P_l_table (spD K n f_l_table 2)
  D_l_plain : DefOk P w K mg base (2 * n) "_law_plain" P_l_plain (spD K n f_l_plain 5)
  D_l_names : DefOk P w K mg base (2 * n) "_law_names" P_l_names (spD K n f_l_names 2)
  D_l_rules : DefOk P w K mg base (2 * n) "_law_rules" P_l_rules (spD K n f_l_rules 1)
  D_l_modules : DefOk P w K mg base (2 * n) "_law_modules" P_l_modules (spD K n f_l_modules 1)
  D_l_made : DefOk P w K mg base (2 * n) "_law_made" P_l_made (spD K n f_l_made 1)
  D_l_all : DefOk P w K mg base (2 * n) "_law_all" P_l_all (spD K n f_l_all 1)
  D_l_calm : DefOk P w K mg base (2 * n) "_law_calm" P_l_calm (spD K n f_l_calm 3)
section
variable {P : Program} {w : World} {K : PySem.W.Frag} {mg : Str → Option Value} {base : Heap} {n : Nat}
theorem ok_is_number (T : Txt K mg) (A : All P w K mg base n) {f : Addr} {fd : FuncData} (F : Fun_is_number K f fd) : KeepsAt P w K mg base (2 * n + 2) P_is_number (spD K (n + 1) f_is_number 3) f := by
  refine keeps (k := 2 * n + 1) F sc_is_number spOf_len (fun _ _ _ _ _ _ us hl => match us, hl with | [_, _, _], _ => rfl) (fun cdv A' outer s H vs Q E hr hsp => ?_)
  have nd := sc_is_number.nd
  exact ⟨_, (pss_one (ps_ret (pe_and (pe_callB call_isi (by rfl) T.b_isinstance bt_isinstance (pa_cons (pv 0) (pa_cons (pe_ty (by rfl) T.b_int bt_int) pa_nil))) (pe_and (pe_not (pe_callB call_isi (by rfl) T.b_isinstance bt_isinstance (pa_cons (pv 0) (pa_cons (pe_ty (by rfl) T.b_bool bt_bool) pa_nil)))) (pe_one (pe_chain op_le op_le (pv 1) (pv 0) (pv 2))))))), body_ok (N := N_is_number) (f := b_is_number (call n)) (n := 3) (rs_ret (re_and (re_cb (rc_isi T.isf) (ra_cons re_var (ra_cons re_ty ra_nil))) (re_and (re_not (re_cb (rc_isi T.isf) (ra_cons re_var (ra_cons re_ty ra_nil)))) (re_chain rop_le rop_le re_var re_var re_var)))) hsp⟩
theorem ok_is_word (T : Txt K mg) (A : All P w K mg base n) {f : Addr} {fd : FuncData} (F : Fun_is_word K f fd) : KeepsAt P w K mg base (2 * n + 2) P_is_word (spD K (n + 1) f_is_word 1) f := by
  refine keeps (k := 2 * n + 1) F sc_is_word spOf_len (fun _ _ _ _ _ _ us hl => match us, hl with | [_], _ => rfl) (fun cdv A' outer s H vs Q E hr hsp => ?_)
  have nd := sc_is_word.nd
  exact ⟨_, (pss_cons (ps_if (PW.pt (pw_or (pt_not (pt_val (pe_callB call_isi (by rfl) T.b_isinstance bt_isinstance (pa_cons (pv 0) (pa_cons (pe_ty (by rfl) T.b_str bt_str) pa_nil))))) (pw_or1 (pt_not (pt_chain op_le op_le pe_int (pe_callB c_len (by rfl) T.b_len bt_len (pa_cons (pv 0) pa_nil)) (pe_glv T.c_MOST_LETTERS (by rfl))))))) (pss_one (ps_ret pe_bl)) pss_nil) (pss_one (ps_ret (pe_callB (cr_all rfl) (by rfl) T.b_all bt_all (pa_cons (pe_lc (own := [("letter", 1)]) (g := gName 1) (tt := tYes) rfl nd (pi_str (pv 0)) (blkOk_by (N := N_is_word) (sc := defScope s_is_word) (own := [("letter", 1)]) (by decide +kernel)) (fun _ _ _ _ _ => (pg_name (i := 1) nd rfl (by first | exact Or.inl rfl | exact Or.inr rfl))) (fun _ _ _ _ _ => pts_nil) (fun _ _ _ _ _ => (pe_cmpR (op_inP hr.units) (pv 1) (pe_glv T.c_LETTERS (by rfl)) rfl))) pa_nil))))), body_ok (N := N_is_word) (f := b_is_word (call n)) (n := 1) (rs_seq (rs_if (rt_or (rt_not (rt_B (re_cb (rc_isi T.isf) (ra_cons re_var (ra_cons re_ty ra_nil))))) (rt_not (rt_test (re_chain rop_le rop_le re_int (re_cb rc_len (ra_cons re_var ra_nil)) re_int)))) (rs_ret re_bl) rs_next) (rs_ret (re_cb rc_all (ra_cons (re_lcN (os := [1]) (ri_str re_var) (rgo_name (by decide)) rt_yes (re_nx (re_op rop_in re_var re_str))) ra_nil)))) hsp⟩
theorem ok_is_action (T : Txt K mg) (A : All P w K mg base n) {f : Addr} {fd : FuncData} (F : Fun_is_action K f fd) : KeepsAt P w K mg base (2 * n + 2) P_is_action (spD K (n + 1) f_is_action 1) f := by
  refine keeps (k := 2 * n + 1) F sc_is_action spOf_len (fun _ _ _ _ _ _ us hl => match us, hl with | [_], _ => rfl) (fun cdv A' outer s H vs Q E hr hsp => ?_)
  have nd := sc_is_action.nd
  exact ⟨_, (pss_one (ps_ret (pe_or (pe_and (pe_callB call_isi (by rfl) T.b_isinstance bt_isinstance (pa_cons (pv 0) (pa_cons (pe_ty (by rfl) T.b_str bt_str) pa_nil))) (pe_one (pe_cmpR (op_inP hr.units) (pv 0) (pe_glv T.c_ACTIONS (by rfl)) rfl))) (pe_one (pe_callD A.D_is_number (hr.mono (by omega)) (passX rfl (takes_of rfl rfl rfl rfl)) (pa_cons (pv 0) (pa_cons pe_int (pa_cons (pe_glv T.c_MOST_JUMP (by rfl)) pa_nil)))))))), body_ok (N := N_is_action) (f := b_is_action (call n)) (n := 1) (rs_ret (re_or (re_and (re_cb (rc_isi T.isf) (ra_cons re_var (ra_cons re_ty ra_nil))) (re_op rop_in re_var (re_c T.r_ACTIONS))) (re_call (ra_cons re_var (ra_cons re_int (ra_cons re_int ra_nil)))))) hsp⟩
theorem ok_table_of (T : Txt K mg) (A : All P w K mg base n) {f : Addr} {fd : FuncData} (F : Fun_table_of K f fd) : KeepsAt P w K mg base (2 * n + 2) P_table_of (spD K (n + 1) f_table_of 1) f := by
  refine keeps (k := 2 * n + 1) F sc_table_of spOf_len (fun _ _ _ _ _ _ us hl => match us, hl with | [_], _ => rfl) (fun cdv A' outer s H vs Q E hr hsp => ?_)
  have nd := sc_table_of.nd
  exact ⟨_, (pss_cons (ps_if (pt_val (pe_callB call_isi (by rfl) T.b_isinstance bt_isinstance (pa_cons (pv 0) (pa_cons (pe_ty (by rfl) T.b_str bt_str) pa_nil)))) (pss_one ps_never) pss_nil) (pss_cons (ps_if (PW.pt (pw_or (pt_not (pt_val (pe_callB call_isi (by rfl) T.b_isinstance bt_isinstance (pa_cons (pv 0) (pa_cons (pe_ty (by rfl) T.b_tuple bt_tuple) pa_nil))))) (pw_or (pt_cmpR (op_neP hr.units) (pe_callB c_len (by rfl) T.b_len bt_len (pa_cons (pv 0) pa_nil)) (pe_callB c_len (by rfl) T.b_len bt_len (pa_cons (pe_glv T.c_RESULTS (by rfl)) pa_nil)) (nomark _)) (pw_or1 (pt_not (pt_val (pe_callB (cr_all rfl) (by rfl) T.b_all bt_all (pa_cons (pe_lc (own := [("one", 1)]) (g := gName 1) (tt := tYes) rfl nd (pi_tup (pv 0)) (blkOk_by (N := N_table_of) (sc := defScope s_table_of) (own := [("one", 1)]) (by decide +kernel)) (fun _ _ _ _ _ => (pg_name (i := 1) nd rfl (by first | exact Or.inl rfl | exact Or.inr rfl))) (fun _ _ _ _ _ => pts_nil) (fun _ _ _ _ _ => (pe_callD A.D_is_action (hr.mono (by omega)) passL (pa_cons (pv 1) pa_nil)))) pa_nil)))))))) (pss_one (ps_ret pe_non)) pss_nil) (pss_one (ps_ret (pv 0))))), body_ok (N := N_table_of) (f := b_table_of (call n)) (n := 1) (rs_seq (rs_if (rt_B (re_cb (rc_isi T.isf) (ra_cons re_var (ra_cons re_ty ra_nil)))) rs_no rs_next) (rs_seq (rs_if (rt_or (rt_not (rt_B (re_cb (rc_isi T.isf) (ra_cons re_var (ra_cons re_ty ra_nil))))) (rt_or (rt_test (re_op rop_ne (re_cb rc_len (ra_cons re_var ra_nil)) (re_cb rc_len (ra_cons (re_c T.r_RESULTS) ra_nil)))) (rt_not (rt_B (re_cb rc_all (ra_cons (re_lcN (os := [1]) (ri_tup re_var) (rgo_name (by decide)) rt_yes (re_nx (re_call (ra_cons re_var ra_nil)))) ra_nil)))))) (rs_ret re_non) rs_next) (rs_ret re_var))) hsp⟩
theorem ok_Rule_init (T : Txt K mg) (A : All P w K mg base n) {f : Addr} {fd : FuncData} (F : Fun_Rule_init K f fd) : KeepsAt P w K mg base (2 * n + 2) P_Rule_init (spD K (n + 1) f_Rule_init 3) f := by
  refine keeps (k := 2 * n + 1) F sc_Rule_init spOf_len (fun _ _ _ _ _ _ us hl => match us, hl with | [_, _, _], _ => rfl) (fun cdv A' outer s H vs Q E hr hsp => ?_)
  have nd := sc_Rule_init.nd
  exact ⟨_, (pss_cons (ps_if (pt_not (pt_val (pe_callD A.D_is_word (hr.mono (by omega)) (passX rfl (takes_of rfl rfl rfl rfl)) (pa_cons (pv 1) pa_nil)))) (pss_one ps_never) pss_nil) (pss_cons (ps_if (pt_cmpR op_isN (pe_callD A.D_table_of (hr.mono (by omega)) (passX rfl (takes_of rfl rfl rfl rfl)) (pa_cons (pv 2) pa_nil)) pe_non (nomark _)) (pss_one ps_never) pss_nil) (pss_cons (ps_fld (pv 0) (pv 1) rfl) (pss_one (ps_fld (pv 0) (pe_callD A.D_table_of (hr.mono (by omega)) (passX rfl (takes_of rfl rfl rfl rfl)) (pa_cons (pv 2) pa_nil)) rfl))))), body_ok (N := N_Rule_init) (f := b_Rule_init (call n)) (n := 3) (rs_seq (rs_if (rt_not (rt_B (re_call (ra_cons re_var ra_nil)))) rs_no rs_next) (rs_seq (rs_if (rt_test (re_op rop_isN (re_call (ra_cons re_var ra_nil)) re_non)) rs_no rs_next) (rs_seq (rs_fld T.n_asks re_var re_var) (rs_fld T.n_acts (re_call (ra_cons re_var ra_nil)) re_var)))) hsp⟩
theorem ok_Rule_action_for (T : Txt K mg) (A : All P w K mg base n) {f : Addr} {fd : FuncData} (F : Fun_Rule_action_for K f fd) : KeepsAt P w K mg base (2 * n + 2) P_Rule_action_for (spD K (n + 1) f_Rule_action_for 2) f := by
  refine keeps (k := 2 * n + 1) F sc_Rule_action_for spOf_len (fun _ _ _ _ _ _ us hl => match us, hl with | [_, _], _ => rfl) (fun cdv A' outer s H vs Q E hr hsp => ?_)
  have nd := sc_Rule_action_for.nd
  exact ⟨_, (pss_one (ps_ret (pe_ix (ix_all hr.units) (pe_fld (pv 0) rfl) (pe_bm PySem.F.plainAttrs_tuple PySem.F.slot_tuple_index PySem.F.type_tuple_index mt_tupIx (pe_glv T.c_RESULTS (by rfl)) (pa_cons (pv 1) pa_nil)) (fun _ _ => rfl)))), body_ok (N := N_Rule_action_for) (f := b_Rule_action_for (call n)) (n := 2) (rs_ret (re_op rop_ixA (re_fld T.n_acts re_var) (re_gIx T.k_RESULTS (ra_cons re_var ra_nil)))) hsp⟩
theorem ok_Stack_init (T : Txt K mg) (A : All P w K mg base n) {f : Addr} {fd : FuncData} (F : Fun_Stack_init K f fd) : KeepsR P w K mg base (2 * n + 2) (spS K (n + 1) f_Stack_init 1) f := by
  refine keepsStar (k := 2 * n + 1) (ps := ["self"]) F sc_Stack_init (fun kV doc pm an cdv ct us rest hl => StX.bind_star1 (B := fun zs => bindArgs (PySem.W.fnOf _ _ _ _ _ _ kV doc pm an cdv ct) ⟨zs, []⟩) (fun _ => rfl) (fun _ _ _ => rfl) us rest hl) (fun cdv A' outer s H vs Q E hr hsp => ?_)
  have nd := sc_Stack_init.nd
  exact ⟨_, (pss_cons (ps_fld (pv 0) (pv 1) rfl) (pss_cons (ps_fld (pv 0) (pe_tup pa_nil) rfl) (pss_cons (ps_fld (pv 0) (pe_tup pa_nil) rfl) (pss_cons (ps_fld (pv 0) pe_int rfl) (pss_one (ps_for (passes_of rfl) rfl (pi_enumT (by rfl) T.b_enumerate (pa_cons (pv 1) pa_nil)) (pg_tup rfl (pgs_cons (pg_name (i := 2) nd rfl (by first | exact Or.inl rfl | exact Or.inr rfl)) (pgs_cons (pg_name (i := 3) nd rfl (by first | exact Or.inl rfl | exact Or.inr rfl)) pgs_nil))) (pss_cons (ps_set (i := 4) nd rfl (by first | exact Or.inl rfl | exact Or.inr rfl) (pe_callB call_isi (by rfl) T.b_isinstance bt_isinstance (pa_cons (pv 3) (pa_cons (pe_glv T.c_Stack (by rfl)) pa_nil)))) (pss_cons (ps_if (PW.pt (pw_or (pt_cmpR (op_eqP hr.units) (pv 2) (pe_glv T.c_MOST_ENTRIES (by rfl)) (nomark _)) (pw_or1 (PW.pt (pw_and (pt_not (pt_val (pv 4))) (pw_and1 (pt_not (pt_val (pe_callB call_isi (by rfl) T.b_isinstance bt_isinstance (pa_cons (pv 3) (pa_cons (pe_glv T.c_Rule (by rfl)) pa_nil))))))))))) (pss_one ps_never) pss_nil) (pss_cons (ps_fld (pv 0) (pe_op op_addP (pe_fld (pv 0) rfl) (pe_callD A.D_steps_of (hr.mono (by omega)) (passX rfl (takes_of rfl rfl rfl rfl)) (pa_cons (pv 3) pa_nil))) rfl) (pss_cons (ps_fld (pv 0) (pe_callTy c_tupleOf (by rfl) T.b_tuple bt_tuple (pa_cons (pe_sortSet rfl (by rfl) T.b_sorted (by rfl) T.b_set (pe_lc (own := [("rule", 5)]) (g := gName 5) (tt := tYes) rfl nd (pi_tup (pe_fld (pv 0) rfl)) (blkOk_by (N := N_Stack_init) (sc := defScope s_Stack_init) (own := [("rule", 5)]) (by decide +kernel)) (fun _ _ _ _ _ => (pg_name (i := 5) nd rfl (by first | exact Or.inl rfl | exact Or.inr rfl))) (fun _ _ _ _ _ => pts_nil) (fun _ _ _ _ _ => (pe_fld (pv 5) rfl)))) pa_nil)) rfl) (pss_cons (ps_fld (pv 0) (pe_callB (c_max2 rfl) (by rfl) T.b_max bt_max (pa_cons (pe_fld (pv 0) rfl) (pa_cons (pe_ifExp (pt_val (pv 4)) (pe_op op_addP (pe_fld (pv 3) rfl) pe_int) pe_int) pa_nil))) rfl) (pss_one (ps_if (PW.pt (pw_or (pt_cmpR op_gt (pe_fld (pv 0) rfl) (pe_glv T.c_MOST_DEPTH (by rfl)) (nomark _)) (pw_or (pt_cmpR op_gt (pe_callB c_len (by rfl) T.b_len bt_len (pa_cons (pe_fld (pv 0) rfl) pa_nil)) (pe_glv T.c_MOST_RULES (by rfl)) (nomark _)) (pw_or1 (pt_cmpR op_gt (pe_callB c_len (by rfl) T.b_len bt_len (pa_cons (pe_fld (pv 0) rfl) pa_nil)) (pe_glv T.c_MOST_MODULES (by rfl)) (nomark _)))))) (pss_one ps_never) pss_nil))))))))))))), body_ok (N := N_Stack_init) (f := b_Stack_init (call n)) (n := 2) (rs_seq (rs_fld T.n_parts re_var re_var) (rs_seq (rs_fld T.n_steps (re_tup ra_nil) re_var) (rs_seq (rs_fld T.n_names (re_tup ra_nil) re_var) (rs_seq (rs_fld T.n_depth re_int re_var) (rs_for (ri_enumT (ra_cons re_var ra_nil)) (rg_tup (rg_cons rg_name (rg_cons rg_name rg_nil))) (rs_seq (rs_set (re_cb (rc_isi T.isf) (ra_cons re_var (ra_cons (re_c fun _ => .cls "Stack") ra_nil)))) (rs_seq (rs_if (rt_or (rt_test (re_op rop_eq re_var re_int)) (rt_and (rt_not (rt_B re_var)) (rt_not (rt_B (re_cb (rc_isi T.isf) (ra_cons re_var (ra_cons (re_c fun _ => .cls "Rule") ra_nil))))))) rs_no rs_next) (rs_seq (rs_fld T.n_steps (re_op rop_add (re_fld T.n_steps re_var) (re_call (ra_cons re_var ra_nil))) re_var) (rs_seq (rs_fld T.n_names (re_cb rc_tuple (ra_cons (re_sortSet (re_lcN (os := [5]) (ri_tup (re_fld T.n_steps re_var)) (rgo_name (by decide)) rt_yes (re_nx (re_fld T.n_asks re_var)))) ra_nil)) re_var) (rs_seq (rs_fld T.n_depth (re_cb rc_max2 (ra_cons (re_fld T.n_depth re_var) (ra_cons (re_if (rt_B re_var) (re_op rop_add (re_fld T.n_depth re_var) re_int) re_int) ra_nil))) re_var) (rs_if (rt_or (rt_test (re_op rop_gt (re_fld T.n_depth re_var) re_int)) (rt_or (rt_test (re_op rop_gt (re_cb rc_len (ra_cons (re_fld T.n_steps re_var) ra_nil)) re_int)) (rt_test (re_op rop_gt (re_cb rc_len (ra_cons (re_fld T.n_names re_var) ra_nil)) re_int)))) rs_no rs_next))))))))))) hsp⟩
theorem ok_Stack___add__ (T : Txt K mg) (A : All P w K mg base n) {f : Addr} {fd : FuncData} (F : Fun_Stack___add__ K f fd) : KeepsAt P w K mg base (2 * n + 2) P_Stack___add__ (spD K (n + 1) f_Stack___add__ 2) f := by
  refine keeps (k := 2 * n + 1) F sc_Stack___add__ spOf_len (fun _ _ _ _ _ _ us hl => match us, hl with | [_, _], _ => rfl) (fun cdv A' outer s H vs Q E hr hsp => ?_)
  have nd := sc_Stack___add__.nd
  exact ⟨_, (pss_cons (ps_set (i := 2) nd rfl (by first | exact Or.inl rfl | exact Or.inr rfl) (pe_op op_addP (pe_fld (pv 0) rfl) (pe_fld (pv 1) rfl))) (pss_one (ps_ret (pe_makeRS A.D_Stack_init hr (passX rfl (takes_of rfl rfl rfl rfl)) (pv 2))))), body_ok (N := N_Stack___add__) (f := b_Stack___add__ (call n)) (n := 2) (rs_seq (rs_set (re_op rop_add (re_fld T.n_parts re_var) (re_fld T.n_parts re_var))) (rs_ret (re_makeR rfl (ra_star re_var)))) hsp⟩
theorem ok_steps_of (T : Txt K mg) (A : All P w K mg base n) {f : Addr} {fd : FuncData} (F : Fun_steps_of K f fd) : KeepsAt P w K mg base (2 * n + 2) P_steps_of (spD K (n + 1) f_steps_of 1) f := by
  refine keeps (k := 2 * n + 1) F sc_steps_of spOf_len (fun _ _ _ _ _ _ us hl => match us, hl with | [_], _ => rfl) (fun cdv A' outer s H vs Q E hr hsp => ?_)
  have nd := sc_steps_of.nd
  exact ⟨_, (pss_one (ps_ret (pe_ifExp (pt_val (pe_callB call_isi (by rfl) T.b_isinstance bt_isinstance (pa_cons (pv 0) (pa_cons (pe_glv T.c_Stack (by rfl)) pa_nil)))) (pe_fld (pv 0) rfl) (pe_tup (pa_cons (pv 0) pa_nil))))), body_ok (N := N_steps_of) (f := b_steps_of (call n)) (n := 1) (rs_ret (re_if (rt_B (re_cb (rc_isi T.isf) (ra_cons re_var (ra_cons (re_c fun _ => .cls "Stack") ra_nil)))) (re_fld T.n_steps re_var) (re_tup (ra_cons re_var ra_nil)))) hsp⟩
theorem ok_firsts_of (T : Txt K mg) (A : All P w K mg base n) {f : Addr} {fd : FuncData} (F : Fun_firsts_of K f fd) : KeepsAt P w K mg base (2 * n + 2) P_firsts_of (spD K (n + 1) f_firsts_of 2) f := by
  refine keeps (k := 2 * n + 1) F sc_firsts_of spOf_len (fun _ _ _ _ _ _ us hl => match us, hl with | [_, _], _ => rfl) (fun cdv A' outer s H vs Q E hr hsp => ?_)
  have nd := sc_firsts_of.nd
  exact ⟨_, (pss_cons (ps_set (i := 2) nd rfl (by first | exact Or.inl rfl | exact Or.inr rfl) (pe_lst pa_nil)) (pss_cons (ps_for (passes_of rfl) rfl (pi_tup (pe_fld (pv 0) rfl)) (pg_name (i := 3) nd rfl (by first | exact Or.inl rfl | exact Or.inr rfl)) (pss_cons (ps_expr (pe_bm PySem.F.plainAttrs_list PySem.F.slot_list_append PySem.F.type_list_append mt_append (pv 2) (pa_cons (pv 1) pa_nil))) (pss_one (ps_aug (i := 1) nd rfl (by first | exact Or.inl rfl | exact Or.inr rfl) (pe_callB c_len (by rfl) T.b_len bt_len (pa_cons (pe_callD A.D_steps_of (hr.mono (by omega)) (passX rfl (takes_of rfl rfl rfl rfl)) (pa_cons (pv 3) pa_nil)) pa_nil)) ip_add)))) (pss_one (ps_ret (pv 2))))), body_ok (N := N_firsts_of) (f := b_firsts_of (call n)) (n := 2) (rs_seq (rs_set (re_lstC ra_nil)) (rs_seq (rs_for (ri_tup (re_fld T.n_parts re_var)) rg_name (rs_seq (rs_drop (re_bmC rm_append re_var (ra_cons re_var ra_nil))) (rs_aug (re_cb rc_len (ra_cons (re_call (ra_cons re_var ra_nil)) ra_nil))))) (rs_ret (re_fr re_var)))) hsp⟩
theorem ok_Run_init (T : Txt K mg) (A : All P w K mg base n) {f : Addr} {fd : FuncData} (F : Fun_Run_init K f fd) : KeepsAt P w K mg base (2 * n + 2) P_Run_init (spD K (n + 1) f_Run_init 3) f := by
  refine keeps (k := 2 * n + 1) F sc_Run_init spOf_len (fun _ _ _ _ _ _ us hl => match us, hl with | [_, _, _], _ => rfl) (fun cdv A' outer s H vs Q E hr hsp => ?_)
  have nd := sc_Run_init.nd
  exact ⟨_, (pss_cons (ps_fld (pv 0) (pv 2) rfl) (pss_cons (ps_fld (pv 0) (pe_lst pa_nil) rfl) (pss_one (ps_fld (pv 0) (pe_methD A.D_Run_ended (hr.mono (by omega)) (passX rfl (takes_of rfl rfl rfl rfl)) (pv 0) (pa_cons (pv 1) (pa_cons pe_int (pa_cons (pe_glv T.c_NONE (by rfl)) pa_nil)))) rfl)))), body_ok (N := N_Run_init) (f := b_Run_init (call n)) (n := 3) (rs_seq (rs_fld T.n_told re_var re_var) (rs_seq (rs_fld T.n_asked_rules (re_lstC ra_nil) re_var) (rs_fld T.n_mark (re_methW rfl re_var (ra_cons re_var (ra_cons re_int (ra_cons (re_c T.r_NONE) ra_nil)))) re_var))) hsp⟩
theorem ok_Run_ended (T : Txt K mg) (A : All P w K mg base n) {f : Addr} {fd : FuncData} (F : Fun_Run_ended K f fd) : KeepsAt P w K mg base (2 * n + 2) P_Run_ended (spD K (n + 1) f_Run_ended 4) f := by
  refine keeps (k := 2 * n + 1) F sc_Run_ended spOf_len (fun _ _ _ _ _ _ us hl => match us, hl with | [_, _, _, _], _ => rfl) (fun cdv A' outer s H vs Q E hr hsp => ?_)
  have nd := sc_Run_ended.nd
  exact ⟨_, (pss_cons (ps_par (i := 4) (j := 5) rfl nd rfl rfl (by decide) rfl rfl (pa_cons (pv 3) (pa_cons pe_int pa_nil)) (by rfl)) (pss_cons (ps_set (i := 6) nd rfl (by first | exact Or.inl rfl | exact Or.inr rfl) (pe_callD A.D_firsts_of (hr.mono (by omega)) (passX rfl (takes_of rfl rfl rfl rfl)) (pa_cons (pv 1) (pa_cons (pv 2) pa_nil)))) (pss_cons (ps_while (passes_of rfl) (pt_cmpR op_lt (pv 5) (pe_callB c_len (by rfl) T.b_len bt_len (pa_cons (pe_fld (pv 1) rfl) pa_nil)) (nomark _)) (pss_cons (ps_par (i := 7) (j := 8) rfl nd rfl rfl (by decide) rfl rfl (pa_cons (pe_ix (ix_all hr.units) (pe_fld (pv 1) rfl) (pv 5) (fun _ _ => rfl)) (pa_cons (pe_ix (ix_all hr.units) (pv 6) (pv 5) (fun _ _ => rfl)) pa_nil)) (by rfl)) (pss_cons (ps_aug (i := 5) nd rfl (by first | exact Or.inl rfl | exact Or.inr rfl) pe_int ip_add) (pss_cons (ps_if (pt_val (pe_callB call_isi (by rfl) T.b_isinstance bt_isinstance (pa_cons (pv 7) (pa_cons (pe_glv T.c_Stack (by rfl)) pa_nil)))) (pss_cons (ps_set (i := 3) nd rfl (by first | exact Or.inl rfl | exact Or.inr rfl) (pe_methD A.D_Run_ended (hr.mono (by omega)) (passX rfl (takes_of rfl rfl rfl rfl)) (pv 0) (pa_cons (pv 7) (pa_cons (pv 8) (pa_cons (pv 3) pa_nil))))) (pss_one ps_continue)) pss_nil) (pss_cons (ps_expr (pe_bm PySem.F.plainAttrs_list PySem.F.slot_list_append PySem.F.type_list_append mt_append (pe_fld (pv 0) rfl) (pa_cons (pv 8) pa_nil))) (pss_cons (ps_set (i := 9) nd rfl (by first | exact Or.inl rfl | exact Or.inr rfl) (pe_methD A.D_Rule_action_for (hr.mono (by omega)) (passX rfl (takes_of rfl rfl rfl rfl)) (pv 7) (pa_cons (pe_ix (ix_all hr.units) (pe_fld (pv 0) rfl) (pe_fld (pv 7) rfl) (fun _ _ => rfl)) pa_nil))) (pss_cons (ps_set (i := 3) nd rfl (by first | exact Or.inl rfl | exact Or.inr rfl) (pe_callD A.D_marked (hr.mono (by omega)) (passX rfl (takes_of rfl rfl rfl rfl)) (pa_cons (pv 9) (pa_cons (pv 3) (pa_cons (pv 4) (pa_cons (pv 8) pa_nil)))))) (pss_cons (ps_if (PW.pt (pw_or (pt_cmpR (op_eqP hr.units) (pv 9) (pe_glv T.c_DIE (by rfl)) (nomark _)) (pw_or1 (PW.pt (pw_and (pt_cmpR (op_eqP hr.units) (pv 9) (pe_glv T.c_DONE (by rfl)) (nomark _)) (pw_and1 (pt_cmpR (op_eqP hr.units) (pv 3) (pe_glv T.c_GOOD (by rfl)) (nomark _)))))))) (pss_one (ps_ret (pv 3))) pss_nil) (pss_one (ps_if (pt_val (pe_callB call_isi (by rfl) T.b_isinstance bt_isinstance (pa_cons (pv 9) (pa_cons (pe_ty (by rfl) T.b_int bt_int) pa_nil)))) (pss_one (ps_aug (i := 5) nd rfl (by first | exact Or.inl rfl | exact Or.inr rfl) (pv 9) ip_add)) pss_nil)))))))))) (pss_one (ps_ret (pv 3)))))), body_ok (N := N_Run_ended) (f := b_Run_ended (call n)) (n := 4) (rs_seq (rs_par (ra_cons re_var (ra_cons re_int ra_nil))) (rs_seq (rs_set (re_call (ra_cons re_var (ra_cons re_var ra_nil)))) (rs_seq (rs_while 2000 (rt_test (re_op rop_lt re_var (re_cb rc_len (ra_cons (re_fld T.n_parts re_var) ra_nil)))) (rs_seq (rs_par (ra_cons (re_op rop_ixA (re_fld T.n_parts re_var) re_var) (ra_cons (re_op rop_ixA re_var re_var) ra_nil))) (rs_seq (rs_aug re_int) (rs_seq (rs_if (rt_B (re_cb (rc_isi T.isf) (ra_cons re_var (ra_cons (re_c fun _ => .cls "Stack") ra_nil)))) (rs_seq (rs_set (re_methW rfl re_var (ra_cons re_var (ra_cons re_var (ra_cons re_var ra_nil))))) rs_ct) rs_next) (rs_seq (rs_drop (re_bmC rm_append (re_fld T.n_asked_rules re_var) (ra_cons re_var ra_nil))) (rs_seq (rs_set (re_meth rfl re_var (ra_cons (re_op rop_ixA (re_fld T.n_told re_var) (re_fld T.n_asks re_var)) ra_nil))) (rs_seq (rs_set (re_call (ra_cons re_var (ra_cons re_var (ra_cons re_var (ra_cons re_var ra_nil)))))) (rs_seq (rs_if (rt_or (rt_test (re_op rop_eq re_var re_str)) (rt_and (rt_test (re_op rop_eq re_var re_str)) (rt_test (re_op rop_eq re_var (re_c T.r_GOOD))))) (rs_ret re_var) rs_next) (rs_if (rt_B (re_cb (rc_isi T.isf) (ra_cons re_var (ra_cons re_ty ra_nil)))) (rs_aug re_var) rs_next))))))))) (rs_ret re_var)))) hsp⟩
theorem ok_Run_outcome (T : Txt K mg) (A : All P w K mg base n) {f : Addr} {fd : FuncData} (F : Fun_Run_outcome K f fd) : KeepsAt P w K mg base (2 * n + 2) P_Run_outcome (spD K (n + 1) f_Run_outcome 1) f := by
  refine keeps (k := 2 * n + 1) F sc_Run_outcome spOf_len (fun _ _ _ _ _ _ us hl => match us, hl with | [_], _ => rfl) (fun cdv A' outer s H vs Q E hr hsp => ?_)
  have nd := sc_Run_outcome.nd
  exact ⟨_, (pss_one (ps_ret (pe_ifExp (pt_cmpR (op_eqP hr.units) (pe_fld (pv 0) rfl) (pe_glv T.c_GOOD (by rfl)) (nomark _)) (pe_glv T.c_IN (by rfl)) (pe_glv T.c_OUT (by rfl))))), body_ok (N := N_Run_outcome) (f := b_Run_outcome (call n)) (n := 1) (rs_ret (re_if (rt_test (re_op rop_eq (re_fld T.n_mark re_var) (re_c T.r_GOOD))) re_str re_str)) hsp⟩
theorem ok_marked (T : Txt K mg) (A : All P w K mg base n) {f : Addr} {fd : FuncData} (F : Fun_marked K f fd) : KeepsAt P w K mg base (2 * n + 2) P_marked (spD K (n + 1) f_marked 4) f := by
  refine keeps (k := 2 * n + 1) F sc_marked spOf_len (fun _ _ _ _ _ _ us hl => match us, hl with | [_, _, _, _], _ => rfl) (fun cdv A' outer s H vs Q E hr hsp => ?_)
  have nd := sc_marked.nd
  exact ⟨_, (pss_cons (ps_if (pt_cmpR (op_inP hr.units) (pv 0) (pe_tup (pa_cons (pe_glv T.c_OK (by rfl)) (pa_cons (pe_glv T.c_DONE (by rfl)) pa_nil))) rfl) (pss_one (ps_ret (pe_ifExp (pt_cmpR (op_eqP hr.units) (pv 1) (pe_glv T.c_NONE (by rfl)) (nomark _)) (pe_glv T.c_GOOD (by rfl)) (pv 1)))) pss_nil) (pss_cons (ps_if (pt_cmpR (op_inP hr.units) (pv 0) (pe_tup (pa_cons (pe_glv T.c_BAD (by rfl)) (pa_cons (pe_glv T.c_DIE (by rfl)) pa_nil))) rfl) (pss_one (ps_ret (pe_ifExp (pt_cmpR (op_eqP hr.units) (pe_ix (ix_all hr.units) (pv 1) pe_int (fun _ _ => rfl)) (pe_glv T.c_BAD (by rfl)) (nomark _)) (pv 1) (pe_tup (pa_cons (pe_glv T.c_BAD (by rfl)) (pa_cons (pv 3) pa_nil)))))) pss_nil) (pss_one (ps_ret (pe_ifExp (pt_cmpR (op_eqP hr.units) (pv 0) (pe_glv T.c_RESET (by rfl)) (nomark _)) (pv 2) (pv 1)))))), body_ok (N := N_marked) (f := b_marked (call n)) (n := 4) (rs_seq (rs_if (rt_test (re_op rop_in re_var (re_tup (ra_cons re_str (ra_cons re_str ra_nil))))) (rs_ret (re_if (rt_test (re_op rop_eq re_var (re_c T.r_NONE))) (re_c T.r_GOOD) re_var)) rs_next) (rs_seq (rs_if (rt_test (re_op rop_in re_var (re_tup (ra_cons re_str (ra_cons re_str ra_nil))))) (rs_ret (re_if (rt_test (re_op rop_eq (re_op rop_ixA re_var re_int) re_str)) re_var (re_tup (ra_cons re_str (ra_cons re_var ra_nil))))) rs_next) (rs_ret (re_if (rt_test (re_op rop_eq re_var re_str)) re_var re_var)))) hsp⟩
theorem ok_need_answers (T : Txt K mg) (A : All P w K mg base n) {f : Addr} {fd : FuncData} (F : Fun_need_answers K f fd) : KeepsAt P w K mg base (2 * n + 2) P_need_answers (spD K (n + 1) f_need_answers 3) f := by
  refine keeps (k := 2 * n + 1) F sc_need_answers spOf_len (fun _ _ _ _ _ _ us hl => match us, hl with | [_, _, _], _ => rfl) (fun cdv A' outer s H vs Q E hr hsp => ?_)
  have nd := sc_need_answers.nd
  exact ⟨_, (pss_one (ps_for (passes_of rfl) rfl (pi_list (pe_sortSet rfl (by rfl) T.b_sorted (by rfl) T.b_set (pe_op op_addP (pe_callTy (c_listP rfl) (by rfl) T.b_list bt_list (pa_cons (pv 0) pa_nil)) (pe_callTy (c_listP rfl) (by rfl) T.b_list bt_list (pa_cons (pv 1) pa_nil))))) (pg_name (i := 3) nd rfl (by first | exact Or.inl rfl | exact Or.inr rfl)) (pss_cons (ps_if (PW.pt (pw_or (pt_cmpR (op_notInP hr.units) (pv 3) (pv 0) rfl) (pw_or1 (PW.pt (pw_and (pt_cmpR (op_notInP hr.units) (pv 3) (pv 1) rfl) (pw_and1 (pt_val (pv 2)))))))) (pss_one ps_never) pss_nil) (pss_one (ps_if (PW.pt (pw_and (pt_cmpR (op_inP hr.units) (pv 3) (pv 1) rfl) (pw_and1 (pt_cmpR (op_notInP hr.units) (pe_ix (ix_all hr.units) (pv 1) (pv 3) (fun _ _ => rfl)) (pe_glv T.c_RESULTS (by rfl)) rfl)))) (pss_one ps_never) pss_nil))))), body_ok (N := N_need_answers) (f := b_need_answers (call n)) (n := 3) (rs_for (ri_seq (re_sortSet (re_op rop_add (re_cb rc_listP (ra_cons re_var ra_nil)) (re_cb rc_listP (ra_cons re_var ra_nil))))) rg_name (rs_seq (rs_if (rt_or (rt_test (re_op rop_notIn re_var re_var)) (rt_and (rt_test (re_op rop_notIn re_var re_var)) (rt_B re_var))) rs_no rs_next) (rs_if (rt_and (rt_test (re_op rop_in re_var re_var)) (rt_test (re_op rop_notIn (re_op rop_ixA re_var re_var) (re_c T.r_RESULTS)))) rs_no rs_next))) hsp⟩
theorem ok_asked (T : Txt K mg) (A : All P w K mg base n) {f : Addr} {fd : FuncData} (F : Fun_asked K f fd) : KeepsAt P w K mg base (2 * n + 2) P_asked (spD K (n + 1) f_asked 2) f := by
  refine keeps (k := 2 * n + 1) F sc_asked spOf_len (fun _ _ _ _ _ _ us hl => match us, hl with | [_, _], _ => rfl) (fun cdv A' outer s H vs Q E hr hsp => ?_)
  have nd := sc_asked.nd
  exact ⟨_, (pss_cons (ps_expr (pe_callD A.D_need_answers (hr.mono (by omega)) (passX rfl (takes_of rfl rfl rfl rfl)) (pa_cons (pe_fld (pv 0) rfl) (pa_cons (pv 1) (pa_cons pe_bl pa_nil))))) (pss_one (ps_ret (pe_fld (pe_makeD A.D_Run_init hr (passX rfl (takes_of rfl rfl rfl rfl)) (pa_cons (pv 0) (pa_cons (pv 1) pa_nil))) rfl)))), body_ok (N := N_asked) (f := b_asked (call n)) (n := 2) (rs_seq (rs_drop (re_call (ra_cons (re_fld T.n_names re_var) (ra_cons re_var (ra_cons re_bl ra_nil))))) (rs_ret (re_fr (re_scope (re_fr (re_fld T.n_asked_rules (re_makeWN rfl (ra_cons re_var (ra_cons re_var ra_nil))))))))) hsp⟩
theorem ok_blamed (T : Txt K mg) (A : All P w K mg base n) {f : Addr} {fd : FuncData} (F : Fun_blamed K f fd) : KeepsAt P w K mg base (2 * n + 2) P_blamed (spD K (n + 1) f_blamed 2) f := by
  refine keeps (k := 2 * n + 1) F sc_blamed spOf_len (fun _ _ _ _ _ _ us hl => match us, hl with | [_, _], _ => rfl) (fun cdv A' outer s H vs Q E hr hsp => ?_)
  have nd := sc_blamed.nd
  exact ⟨_, (pss_cons (ps_expr (pe_callD A.D_need_answers (hr.mono (by omega)) (passX rfl (takes_of rfl rfl rfl rfl)) (pa_cons (pe_fld (pv 0) rfl) (pa_cons (pv 1) (pa_cons pe_bl pa_nil))))) (pss_one (ps_ret (pe_ix (ix_all hr.units) (pe_fld (pe_makeD A.D_Run_init hr (passX rfl (takes_of rfl rfl rfl rfl)) (pa_cons (pv 0) (pa_cons (pv 1) pa_nil))) rfl) pe_int (fun _ _ => rfl))))), body_ok (N := N_blamed) (f := b_blamed (call n)) (n := 2) (rs_seq (rs_drop (re_call (ra_cons (re_fld T.n_names re_var) (ra_cons re_var (ra_cons re_bl ra_nil))))) (rs_ret (re_scope (re_op rop_ixA (re_fld T.n_mark (re_makeWN rfl (ra_cons re_var (ra_cons re_var ra_nil)))) re_int)))) hsp⟩
theorem ok_all_answers (T : Txt K mg) (A : All P w K mg base n) {f : Addr} {fd : FuncData} (F : Fun_all_answers K f fd) : KeepsAt P w K mg base (2 * n + 2) P_all_answers (spD K (n + 1) f_all_answers 1) f := by
  refine keeps (k := 2 * n + 1) F sc_all_answers spOf_len (fun _ _ _ _ _ _ us hl => match us, hl with | [_], _ => rfl) (fun cdv A' outer s H vs Q E hr hsp => ?_)
  have nd := sc_all_answers.nd
  exact ⟨_, (pss_cons (ps_set (i := 1) nd rfl (by first | exact Or.inl rfl | exact Or.inr rfl) (pe_lst (pa_cons pe_dnewK pa_nil))) (pss_cons (ps_for (passes_of rfl) rfl (pi_list (pv 0)) (pg_name (i := 2) nd rfl (by first | exact Or.inl rfl | exact Or.inr rfl)) (pss_one (ps_setLc2 (i := 1) (own := [("answers", 3), ("result", 4)]) (g := gName 3) (g1 := gName 4) (vs1 := [4]) (tt := tYes) (tt1 := tYes) rfl nd rfl rfl (sw_true rfl rfl rfl (by decide +kernel)) (pi_list (pv 1)) (blkOk_by (N := N_all_answers) (sc := defScope s_all_answers) (own := [("answers", 3), ("result", 4)]) (by decide +kernel)) (by decide) (fun _ _ _ _ _ => (pg_name (i := 3) nd rfl (by first | exact Or.inl rfl | exact Or.inr rfl))) (fun _ _ _ _ _ => pts_nil) (fun _ _ _ _ _ => (pi_tup (pe_glv T.c_RESULTS (by rfl)))) (fun _ _ _ _ _ => (pg_name (i := 4) nd rfl (by first | exact Or.inl rfl | exact Or.inr rfl))) (fun _ _ _ _ _ => pts_nil) (fun _ _ _ _ _ => (pe_op op_orD (pv 3) (pe_disp (pps_cons (pv 2) (pv 4) pps_nil) rfl rfl (by simp) (by simp))))))) (pss_one (ps_ret (pv 1))))), body_ok (N := N_all_answers) (f := b_all_answers (call n)) (n := 1) (rs_seq (rs_set (re_lst (ra_cons re_dnew ra_nil))) (rs_seq (rs_for (ri_seq re_var) rg_name (rs_set (re_lc2 (os := [3, 4]) (os1 := [4]) (ri_seq re_var) (rgo_name (by decide)) rt_yes (ri_tup (re_c T.r_RESULTS)) (rgo_name (by decide)) rt_yes (re_nx (re_op rop_or re_var (re_disp (rps_cons re_var re_var rps_nil))))))) (rs_ret re_var))) hsp⟩
theorem ok_both_outcomes (T : Txt K mg) (A : All P w K mg base n) {f : Addr} {fd : FuncData} (F : Fun_both_outcomes K f fd) : KeepsAt P w K mg base (2 * n + 2) P_both_outcomes (spD K (n + 1) f_both_outcomes 2) f := by
  refine keeps (k := 2 * n + 1) F sc_both_outcomes spOf_len (fun _ _ _ _ _ _ us hl => match us, hl with | [_, _], _ => rfl) (fun cdv A' outer s H vs Q E hr hsp => ?_)
  have nd := sc_both_outcomes.nd
  exact ⟨_, (pss_cons (ps_set (i := 2) nd rfl (by first | exact Or.inl rfl | exact Or.inr rfl) (pe_sortSetT rfl (by rfl) T.b_sorted (by rfl) T.b_set (pe_op op_addP (pe_fld (pv 0) rfl) (pe_fld (pv 1) rfl)))) (pss_cons (ps_if (pt_cmpR op_gt (pe_callB c_len (by rfl) T.b_len bt_len (pa_cons (pv 2) pa_nil)) (pe_glv T.c_MOST_MODULES (by rfl)) (nomark _)) (pss_one ps_never) pss_nil) (pss_one (ps_ret (pe_lc (own := [("answers", 3)]) (g := gName 3) (tt := tYes) rfl nd (pi_list (pe_callD A.D_all_answers (hr.mono (by omega)) (passX rfl (takes_of rfl rfl rfl rfl)) (pa_cons (pv 2) pa_nil))) (blkOk_by (N := N_both_outcomes) (sc := defScope s_both_outcomes) (own := [("answers", 3)]) (by decide +kernel)) (fun _ _ _ _ _ => (pg_name (i := 3) nd rfl (by first | exact Or.inl rfl | exact Or.inr rfl))) (fun _ _ _ _ _ => pts_nil) (fun _ _ _ _ _ => (pe_tup (pa_cons (pv 3) (pa_cons (pe_meth0D A.D_Run_outcome (hr.mono (by omega)) passL (pe_makeD A.D_Run_init hr passL (pa_cons (pv 0) (pa_cons (pv 3) pa_nil)))) (pa_cons (pe_meth0D A.D_Run_outcome (hr.mono (by omega)) passL (pe_makeD A.D_Run_init hr passL (pa_cons (pv 1) (pa_cons (pv 3) pa_nil)))) pa_nil)))))))))), body_ok (N := N_both_outcomes) (f := b_both_outcomes (call n)) (n := 2) (rs_seq (rs_set (re_sortSetT (re_op rop_add (re_fld T.n_names re_var) (re_fld T.n_names re_var)))) (rs_seq (rs_if (rt_test (re_op rop_gt (re_cb rc_len (ra_cons re_var ra_nil)) re_int)) rs_no rs_next) (rs_ret (re_lcN (os := [3]) (ri_seq (re_call (ra_cons re_var ra_nil))) (rgo_name (by decide)) rt_yes (re_nx (re_tup (ra_cons re_var (ra_cons (re_scope (re_methW rfl (re_makeWN rfl (ra_cons re_var (ra_cons re_var ra_nil))) ra_nil)) (ra_cons (re_scope (re_methW rfl (re_makeWN rfl (ra_cons re_var (ra_cons re_var ra_nil))) ra_nil)) ra_nil))))))))) hsp⟩
theorem ok_first_difference (T : Txt K mg) (A : All P w K mg base n) {f : Addr} {fd : FuncData} (F : Fun_first_difference K f fd) : KeepsAt P w K mg base (2 * n + 2) P_first_difference (spD K (n + 1) f_first_difference 2) f := by
  refine keeps (k := 2 * n + 1) F sc_first_difference spOf_len (fun _ _ _ _ _ _ us hl => match us, hl with | [_, _], _ => rfl) (fun cdv A' outer s H vs Q E hr hsp => ?_)
  have nd := sc_first_difference.nd
  exact ⟨_, (pss_cons (ps_for (passes_of rfl) rfl (pi_list (pe_callD A.D_both_outcomes (hr.mono (by omega)) (passX rfl (takes_of rfl rfl rfl rfl)) (pa_cons (pv 0) (pa_cons (pv 1) pa_nil)))) (pg_tup rfl (pgs_cons (pg_name (i := 2) nd rfl (by first | exact Or.inl rfl | exact Or.inr rfl)) (pgs_cons (pg_name (i := 3) nd rfl (by first | exact Or.inl rfl | exact Or.inr rfl)) (pgs_cons (pg_name (i := 4) nd rfl (by first | exact Or.inl rfl | exact Or.inr rfl)) pgs_nil)))) (pss_one (ps_if (pt_cmpR (op_neP hr.units) (pv 3) (pv 4) (nomark _)) (pss_one (ps_ret (pe_tup (pa_cons (pv 2) (pa_cons (pv 3) pa_nil))))) pss_nil))) (pss_one (ps_ret pe_non))), body_ok (N := N_first_difference) (f := b_first_difference (call n)) (n := 2) (rs_seq (rs_for (ri_seq (re_call (ra_cons re_var (ra_cons re_var ra_nil)))) (rg_tup (rg_cons rg_name (rg_cons rg_name (rg_cons rg_name rg_nil)))) (rs_if (rt_test (re_op rop_ne re_var re_var)) (rs_ret (re_tup (ra_cons re_var (ra_cons re_var ra_nil)))) rs_next)) (rs_ret re_non)) hsp⟩
theorem ok_alike (T : Txt K mg) (A : All P w K mg base n) {f : Addr} {fd : FuncData} (F : Fun_alike K f fd) : KeepsAt P w K mg base (2 * n + 2) P_alike (spD K (n + 1) f_alike 2) f := by
  refine keeps (k := 2 * n + 1) F sc_alike spOf_len (fun _ _ _ _ _ _ us hl => match us, hl with | [_, _], _ => rfl) (fun cdv A' outer s H vs Q E hr hsp => ?_)
  have nd := sc_alike.nd
  exact ⟨_, (pss_one (ps_ret (pe_cmpR op_isN (pe_callD A.D_first_difference (hr.mono (by omega)) (passX rfl (takes_of rfl rfl rfl rfl)) (pa_cons (pv 0) (pa_cons (pv 1) pa_nil))) pe_non (nomark _)))), body_ok (N := N_alike) (f := b_alike (call n)) (n := 2) (rs_ret (re_op rop_isN (re_call (ra_cons re_var (ra_cons re_var ra_nil))) re_non)) hsp⟩
theorem ok_free_pairs (T : Txt K mg) (A : All P w K mg base n) {f : Addr} {fd : FuncData} (F : Fun_free_pairs K f fd) : KeepsAt P w K mg base (2 * n + 2) P_free_pairs (spD K (n + 1) f_free_pairs 1) f := by
  refine keeps (k := 2 * n + 1) F sc_free_pairs spOf_len (fun _ _ _ _ _ _ us hl => match us, hl with | [_], _ => rfl) (fun cdv A' outer s H vs Q E hr hsp => ?_)
  have nd := sc_free_pairs.nd
  exact ⟨_, (pss_cons (ps_set (i := 1) nd rfl (by first | exact Or.inl rfl | exact Or.inr rfl) (pe_lst pa_nil)) (pss_cons (ps_for (passes_of rfl) rfl (pi_range1 (by rfl) T.b_range (pa_cons (pe_op op_sub (pe_callB c_len (by rfl) T.b_len bt_len (pa_cons (pe_fld (pv 0) rfl) pa_nil)) pe_int) pa_nil)) (pg_name (i := 2) nd rfl (by first | exact Or.inl rfl | exact Or.inr rfl)) (pss_cons (ps_par (i := 3) (j := 4) rfl nd rfl rfl (by decide) rfl rfl (pa_cons (pe_ix (ix_all hr.units) (pe_fld (pv 0) rfl) (pv 2) (fun _ _ => rfl)) (pa_cons (pe_ix (ix_all hr.units) (pe_fld (pv 0) rfl) (pe_op op_addP (pv 2) pe_int) (fun _ _ => rfl)) pa_nil)) (by rfl)) (pss_cons (ps_set (i := 5) nd rfl (by first | exact Or.inl rfl | exact Or.inr rfl) (pe_op op_addP (pe_op op_addP (pe_slice sl_all (pe_fld (pv 0) rfl) po_none (po_some (pv 2))) (pe_tup (pa_cons (pv 4) (pa_cons (pv 3) pa_nil)))) (pe_slice sl_all (pe_fld (pv 0) rfl) (po_some (pe_op op_addP (pv 2) pe_int)) po_none))) (pss_one (ps_if (pt_val (pe_callD A.D_alike (hr.mono (by omega)) (passX rfl (takes_of rfl rfl rfl rfl)) (pa_cons (pv 0) (pa_cons (pe_makeRS A.D_Stack_init hr (passX rfl (takes_of rfl rfl rfl rfl)) (pv 5)) pa_nil)))) (pss_one (ps_expr (pe_bm PySem.F.plainAttrs_list PySem.F.slot_list_append PySem.F.type_list_append mt_append (pv 1) (pa_cons (pv 2) pa_nil)))) pss_nil))))) (pss_one (ps_ret (pv 1))))), body_ok (N := N_free_pairs) (f := b_free_pairs (call n)) (n := 1) (rs_seq (rs_set (re_lstC ra_nil)) (rs_seq (rs_for (ri_rng1 (ra_cons (re_op rop_sub (re_cb rc_len (ra_cons (re_fld T.n_parts re_var) ra_nil)) re_int) ra_nil)) rg_name (rs_seq (rs_par (ra_cons (re_op rop_ixA (re_fld T.n_parts re_var) re_var) (ra_cons (re_op rop_ixA (re_fld T.n_parts re_var) (re_op rop_add re_var re_int)) ra_nil))) (rs_seq (rs_set (re_op rop_add (re_op rop_add (re_slice (re_fld T.n_parts re_var) ro_no (ro_part re_var)) (re_tup (ra_cons re_var (ra_cons re_var ra_nil)))) (re_slice (re_fld T.n_parts re_var) (ro_part (re_op rop_add re_var re_int)) ro_no))) (rs_if (rt_B (re_call (ra_cons re_var (ra_cons (re_makeR rfl (ra_star re_var)) ra_nil)))) (rs_drop (re_bmC rm_append re_var (ra_cons re_var ra_nil))) rs_next)))) (rs_ret (re_fr re_var)))) hsp⟩
theorem ok_l_taken (T : Txt K mg) (A : All P w K mg base n) {f : Addr} {fd : FuncData} (F : Fun_l_taken K f fd) : KeepsAt P w K mg base (2 * n + 2) P_l_taken (spD K (n + 1) f_l_taken 2) f := by
  refine keeps (k := 2 * n + 1) F sc_l_taken spOf_len (fun _ _ _ _ _ _ us hl => match us, hl with | [_, _], _ => rfl) (fun cdv A' outer s H vs Q E hr hsp => ?_)
  have nd := sc_l_taken.nd
  exact ⟨_, (pss_cons (ps_if (pt_cmpR op_gt (pe_ix (ix_all hr.units) (pv 0) pe_int (fun _ _ => rfl)) pe_int (nomark _)) (pss_cons (ps_set (i := 2) nd rfl (by first | exact Or.inl rfl | exact Or.inr rfl) (pe_op op_mod (pe_callTy c_int1 (by rfl) T.b_int bt_int (pa_cons (pe_ix (ix_all hr.units) (pv 0) pe_int (fun _ _ => rfl)) pa_nil)) (pv 1))) (pss_cons (ps_asg (pe_op op_fdivW (pe_ix (ix_all hr.units) (pv 0) pe_int (fun _ _ => rfl)) (pv 1)) (pg_sub (pv 0) pe_int set_list)) (pss_one (ps_ret (pv 2))))) pss_nil) (pss_cons (ps_asg (pe_op op_addP (pe_ix (ix_all hr.units) (pv 0) pe_int (fun _ _ => rfl)) pe_int) (pg_sub (pv 0) pe_int set_list)) (pss_cons (ps_if (pt_cmpR op_gt (pe_ix (ix_all hr.units) (pv 0) pe_int (fun _ _ => rfl)) (pe_callB c_len (by rfl) T.b_len bt_len (pa_cons (pe_ix (ix_all hr.units) (pv 0) pe_int (fun _ _ => rfl)) pa_nil)) (nomark _)) (pss_cons (ps_asg (pe_op op_mod (pe_callTy c_int1 (by rfl) T.b_int bt_int (pa_cons (pe_op op_addP (pe_op op_mul (pe_ix (ix_all hr.units) (pv 0) pe_int (fun _ _ => rfl)) pe_int) pe_int) pa_nil)) pe_int) (pg_sub (pv 0) pe_int set_list)) (pss_one (ps_ret (pe_op op_mod (pe_callTy c_int1 (by rfl) T.b_int bt_int (pa_cons (pe_op op_fdivW (pe_ix (ix_all hr.units) (pv 0) pe_int (fun _ _ => rfl)) pe_int) pa_nil)) (pv 1))))) pss_nil) (pss_cons (ps_set (i := 3) nd rfl (by first | exact Or.inl rfl | exact Or.inr rfl) (pe_ix (ix_all hr.units) (pe_ix (ix_all hr.units) (pv 0) pe_int (fun _ _ => rfl)) (pe_op op_sub (pe_ix (ix_all hr.units) (pv 0) pe_int (fun _ _ => rfl)) pe_int) (fun _ _ => rfl))) (pss_cons (ps_asg (pe_op op_mod (pe_callTy c_int1 (by rfl) T.b_int bt_int (pa_cons (pe_op op_addP (pe_op op_addP (pe_op op_mul (pe_ix (ix_all hr.units) (pv 0) pe_int (fun _ _ => rfl)) pe_int) (pv 3)) pe_int) pa_nil)) pe_int) (pg_sub (pv 0) pe_int set_list)) (pss_cons (ps_asg (pe_ifExp (pt_cmpR op_ge (pv 3) (pe_op op_pow pe_int pe_int) (nomark _)) (pe_op op_fdivW (pv 3) (pv 1)) pe_int) (pg_sub (pv 0) pe_int set_list)) (pss_one (ps_ret (pe_op op_mod (pe_callTy c_int1 (by rfl) T.b_int bt_int (pa_cons (pv 3) pa_nil)) (pv 1)))))))))), body_ok (N := N_l_taken) (f := b_l_taken (call n)) (n := 2) (rs_seq (rs_if (rt_test (re_op rop_gt (re_op rop_ixA re_var re_int) re_int)) (rs_seq (rs_set (re_op rop_mod (re_cb rc_int1 (ra_cons (re_op rop_ixA re_var re_int) ra_nil)) re_var)) (rs_seq (rs_asg (re_op rop_fdiv (re_op rop_ixA re_var re_int) re_var) (rg_sub re_var re_int)) (rs_ret re_var))) rs_next) (rs_seq (rs_asg (re_op rop_add (re_op rop_ixA re_var re_int) re_int) (rg_sub re_var re_int)) (rs_seq (rs_if (rt_test (re_op rop_gt (re_op rop_ixA re_var re_int) (re_cb rc_len (ra_cons (re_op rop_ixA re_var re_int) ra_nil)))) (rs_seq (rs_asg (re_op rop_mod (re_cb rc_int1 (ra_cons (re_op rop_add (re_op rop_mul (re_op rop_ixA re_var re_int) re_int) re_int) ra_nil)) re_int) (rg_sub re_var re_int)) (rs_ret (re_op rop_mod (re_cb rc_int1 (ra_cons (re_op rop_fdiv (re_op rop_ixA re_var re_int) re_int) ra_nil)) re_var))) rs_next) (rs_seq (rs_set (re_op rop_ixA (re_op rop_ixA re_var re_int) (re_op rop_sub (re_op rop_ixA re_var re_int) re_int))) (rs_seq (rs_asg (re_op rop_mod (re_cb rc_int1 (ra_cons (re_op rop_add (re_op rop_add (re_op rop_mul (re_op rop_ixA re_var re_int) re_int) re_var) re_int) ra_nil)) re_int) (rg_sub re_var re_int)) (rs_seq (rs_asg (re_if (rt_test (re_op rop_ge re_var (re_op rop_pow re_int re_int))) (re_op rop_fdiv re_var re_var) re_int) (rg_sub re_var re_int)) (rs_ret (re_op rop_mod (re_cb rc_int1 (ra_cons re_var ra_nil)) re_var)))))))) hsp⟩
theorem ok_l_pick (T : Txt K mg) (A : All P w K mg base n) {f : Addr} {fd : FuncData} (F : Fun_l_pick K f fd) : KeepsAt P w K mg base (2 * n + 2) P_l_pick (spD K (n + 1) f_l_pick 2) f := by
  refine keeps (k := 2 * n + 1) F sc_l_pick spOf_len (fun _ _ _ _ _ _ us hl => match us, hl with | [_, _], _ => rfl) (fun cdv A' outer s H vs Q E hr hsp => ?_)
  have nd := sc_l_pick.nd
  exact ⟨_, (pss_one (ps_ret (pe_ix (ix_all hr.units) (pv 1) (pe_callD A.D_l_taken (hr.mono (by omega)) (passX rfl (takes_of rfl rfl rfl rfl)) (pa_cons (pv 0) (pa_cons (pe_callB c_len (by rfl) T.b_len bt_len (pa_cons (pv 1) pa_nil)) pa_nil))) (fun _ _ => rfl)))), body_ok (N := N_l_pick) (f := b_l_pick (call n)) (n := 2) (rs_ret (re_op rop_ixA re_var (re_call (ra_cons re_var (ra_cons (re_cb rc_len (ra_cons re_var ra_nil)) ra_nil))))) hsp⟩
theorem ok_l_table (T : Txt K mg) (A : All P w K mg base n) {f : Addr} {fd : FuncData} (F : Fun_l_table K f fd) : KeepsAt P w K mg base (2 * n + 2) P_l_table (spD K (n + 1) f_l_table 2) f := by
  refine keeps (k := 2 * n + 1) F sc_l_table spOf_len (fun _ _ _ _ _ _ us hl => match us, hl with | [_, _], _ => rfl) (fun cdv A' outer s H vs Q E hr hsp => ?_)
  have nd := sc_l_table.nd
  exact ⟨_, (pss_cons (ps_set (i := 2) nd rfl (by first | exact Or.inl rfl | exact Or.inr rfl) (pe_lst (pa_cons (pe_tup (pa_cons pe_str (pa_cons pe_str (pa_cons pe_str (pa_cons pe_str pa_nil))))) (pa_cons (pe_tup (pa_cons pe_str (pa_cons pe_str (pa_cons pe_str (pa_cons pe_str pa_nil))))) (pa_cons (pe_tup (pa_cons pe_str (pa_cons pe_str (pa_cons pe_str (pa_cons pe_str pa_nil))))) pa_nil))))) (pss_cons (ps_expr (pe_bm PySem.F.plainAttrs_list PySem.F.slot_list_append PySem.F.type_list_append mt_append (pv 2) (pa_cons (pe_tup (pa_cons pe_str (pa_cons pe_str (pa_cons pe_str (pa_cons pe_str pa_nil))))) pa_nil))) (pss_cons (ps_if (PW.pt (pw_or (pt_val (pv 1)) (pw_or1 (pt_cmpR (op_eqP hr.units) (pe_callD A.D_l_taken (hr.mono (by omega)) (passX rfl (takes_of rfl rfl rfl rfl)) (pa_cons (pv 0) (pa_cons pe_int pa_nil))) pe_int (nomark _))))) (pss_one (ps_ret (pe_ix (ix_all hr.units) (pv 2) (pe_callD A.D_l_taken (hr.mono (by omega)) (passX rfl (takes_of rfl rfl rfl rfl)) (pa_cons (pv 0) (pa_cons pe_int pa_nil))) (fun _ _ => rfl)))) pss_nil) (pss_cons (ps_set (i := 3) nd rfl (by first | exact Or.inl rfl | exact Or.inr rfl) (pe_lst (pa_cons pe_str (pa_cons pe_str (pa_cons pe_str (pa_cons pe_str (pa_cons pe_str (pa_cons pe_str (pa_cons pe_int (pa_cons pe_int (pa_cons pe_int pa_nil))))))))))) (pss_one (ps_ret (pe_callTy c_tupleOf (by rfl) T.b_tuple bt_tuple (pa_cons (pe_lc (own := [("_law_k", 4)]) (g := gName 4) (tt := tYes) rfl nd (pi_range1 (by rfl) T.b_range (pa_cons pe_int pa_nil)) (blkOk_by (N := N_l_table) (sc := defScope s_l_table) (own := [("_law_k", 4)]) (by decide +kernel)) (fun _ _ _ _ _ => (pg_name (i := 4) nd rfl (by first | exact Or.inl rfl | exact Or.inr rfl))) (fun _ _ _ _ _ => pts_nil) (fun _ _ _ _ _ => (pe_ix (ix_all hr.units) (pv 3) (pe_callD A.D_l_taken (hr.mono (by omega)) passL (pa_cons (pv 0) (pa_cons pe_int pa_nil))) (fun _ _ => rfl)))) pa_nil)))))))), body_ok (N := N_l_table) (f := b_l_table (call n)) (n := 2) (rs_seq (rs_set (re_lstC (ra_cons (re_tup (ra_cons re_str (ra_cons re_str (ra_cons re_str (ra_cons re_str ra_nil))))) (ra_cons (re_tup (ra_cons re_str (ra_cons re_str (ra_cons re_str (ra_cons re_str ra_nil))))) (ra_cons (re_tup (ra_cons re_str (ra_cons re_str (ra_cons re_str (ra_cons re_str ra_nil))))) ra_nil))))) (rs_seq (rs_drop (re_bmC rm_append re_var (ra_cons (re_tup (ra_cons re_str (ra_cons re_str (ra_cons re_str (ra_cons re_str ra_nil))))) ra_nil))) (rs_seq (rs_if (rt_or (rt_B re_var) (rt_test (re_op rop_eq (re_call (ra_cons re_var (ra_cons re_int ra_nil))) re_int))) (rs_ret (re_op rop_ixA re_var (re_call (ra_cons re_var (ra_cons re_int ra_nil))))) rs_next) (rs_seq (rs_set (re_lst (ra_cons re_str (ra_cons re_str (ra_cons re_str (ra_cons re_str (ra_cons re_str (ra_cons re_str (ra_cons re_int (ra_cons re_int (ra_cons re_int ra_nil))))))))))) (rs_ret (re_cb rc_tuple (ra_cons (re_lcN (os := [4]) (ri_rng1 (ra_cons re_int ra_nil)) (rgo_name (by decide)) rt_yes (re_nx (re_op rop_ixA re_var (re_call (ra_cons re_var (ra_cons re_int ra_nil)))))) ra_nil))))))) hsp⟩
theorem ok_l_plain (T : Txt K mg) (A : All P w K mg base n) {f : Addr} {fd : FuncData} (F : Fun_l_plain K f fd) : KeepsAt P w K mg base (2 * n + 2) P_l_plain (spD K (n + 1) f_l_plain 5) f := by
  refine keeps (k := 2 * n + 1) F sc_l_plain spOf_len (fun _ _ _ _ _ _ us hl => match us, hl with | [_, _, _, _, _], _ => rfl) (fun cdv A' outer s H vs Q E hr hsp => ?_)
  have nd := sc_l_plain.nd
  exact ⟨_, (pss_cons (ps_par (i := 5) (j := 6) rfl nd rfl rfl (by decide) rfl rfl (pa_cons (pe_lst pa_nil) (pa_cons (pv 2) pa_nil)) (by rfl)) (pss_cons (ps_for (passes_of rfl) rfl (pi_range1 (by rfl) T.b_range (pa_cons (pe_callD A.D_l_taken (hr.mono (by omega)) (passX rfl (takes_of rfl rfl rfl rfl)) (pa_cons (pv 0) (pa_cons pe_int pa_nil))) pa_nil)) (pg_name (i := 7) nd rfl (by first | exact Or.inl rfl | exact Or.inr rfl)) (pss_one (ps_if (PW.pt (pw_and (pt_cmpR op_gt (pv 3) pe_int (nomark _)) (pw_and (pt_cmpR op_gt (pv 6) pe_int (nomark _)) (pw_and1 (pt_cmpR (op_eqP hr.units) (pe_callD A.D_l_taken (hr.mono (by omega)) (passX rfl (takes_of rfl rfl rfl rfl)) (pa_cons (pv 0) (pa_cons pe_int pa_nil))) pe_int (nomark _)))))) (pss_cons (ps_set (i := 8) nd rfl (by first | exact Or.inl rfl | exact Or.inr rfl) (pe_callD A.D_l_plain (hr.mono (by omega)) (passX rfl (takes_of rfl rfl rfl rfl)) (pa_cons (pv 0) (pa_cons (pv 1) (pa_cons (pe_callB (c_min2 rfl) (by rfl) T.b_min bt_min (pa_cons (pv 6) (pa_cons pe_int pa_nil))) (pa_cons (pe_op op_sub (pv 3) pe_int) (pa_cons (pv 4) pa_nil))))))) (pss_cons (ps_expr (pe_bm PySem.F.plainAttrs_list PySem.F.slot_list_append PySem.F.type_list_append mt_append (pv 5) (pa_cons (pv 8) pa_nil))) (pss_one (ps_set (i := 6) nd rfl (by first | exact Or.inl rfl | exact Or.inr rfl) (pe_op op_sub (pv 6) (pe_callB c_len (by rfl) T.b_len bt_len (pa_cons (pe_callD A.D_l_rules (hr.mono (by omega)) (passX rfl (takes_of rfl rfl rfl rfl)) (pa_cons (pv 8) pa_nil)) pa_nil))))))) (pss_one (ps_if (pt_cmpR op_gt (pv 6) pe_int (nomark _)) (pss_cons (ps_expr (pe_bm PySem.F.plainAttrs_list PySem.F.slot_list_append PySem.F.type_list_append mt_append (pv 5) (pa_cons (pe_tup (pa_cons (pe_callD A.D_l_pick (hr.mono (by omega)) (passX rfl (takes_of rfl rfl rfl rfl)) (pa_cons (pv 0) (pa_cons (pv 1) pa_nil))) (pa_cons (pe_callD A.D_l_table (hr.mono (by omega)) (passX rfl (takes_of rfl rfl rfl rfl)) (pa_cons (pv 0) (pa_cons (pv 4) pa_nil))) pa_nil))) pa_nil))) (pss_one (ps_set (i := 6) nd rfl (by first | exact Or.inl rfl | exact Or.inr rfl) (pe_op op_sub (pv 6) pe_int)))) pss_nil))))) (pss_one (ps_ret (pv 5))))), body_ok (N := N_l_plain) (f := b_l_plain (call n)) (n := 5) (rs_seq (rs_par (ra_cons (re_lstC ra_nil) (ra_cons re_var ra_nil))) (rs_seq (rs_for (ri_rng1 (ra_cons (re_call (ra_cons re_var (ra_cons re_int ra_nil))) ra_nil)) rg_name (rs_if (rt_and (rt_test (re_op rop_gt re_var re_int)) (rt_and (rt_test (re_op rop_gt re_var re_int)) (rt_test (re_op rop_eq (re_call (ra_cons re_var (ra_cons re_int ra_nil))) re_int)))) (rs_seq (rs_set (re_call (ra_cons re_var (ra_cons re_var (ra_cons (re_cb rc_min2 (ra_cons re_var (ra_cons re_int ra_nil))) (ra_cons (re_op rop_sub re_var re_int) (ra_cons re_var ra_nil))))))) (rs_seq (rs_drop (re_bmC rm_append re_var (ra_cons re_var ra_nil))) (rs_set (re_op rop_sub re_var (re_cb rc_len (ra_cons (re_call (ra_cons re_var ra_nil)) ra_nil)))))) (rs_if (rt_test (re_op rop_gt re_var re_int)) (rs_seq (rs_drop (re_bmC rm_append re_var (ra_cons (re_tup (ra_cons (re_call (ra_cons re_var (ra_cons re_var ra_nil))) (ra_cons (re_call (ra_cons re_var (ra_cons re_var ra_nil))) ra_nil))) ra_nil))) (rs_set (re_op rop_sub re_var re_int))) rs_next))) (rs_ret (re_fr re_var)))) hsp⟩
theorem ok_l_names (T : Txt K mg) (A : All P w K mg base n) {f : Addr} {fd : FuncData} (F : Fun_l_names K f fd) : KeepsAt P w K mg base (2 * n + 2) P_l_names (spD K (n + 1) f_l_names 2) f := by
  refine keeps (k := 2 * n + 1) F sc_l_names spOf_len (fun _ _ _ _ _ _ us hl => match us, hl with | [_, _], _ => rfl) (fun cdv A' outer s H vs Q E hr hsp => ?_)
  have nd := sc_l_names.nd
  exact ⟨_, (pss_cons (ps_par (i := 2) (j := 3) rfl nd rfl rfl (by decide) rfl rfl (pa_cons (pe_lst (pa_cons pe_str (pa_cons pe_str (pa_cons pe_str (pa_cons pe_str pa_nil))))) (pa_cons (pe_lst pa_nil) pa_nil)) (by rfl)) (pss_cons (ps_for (passes_of rfl) rfl (pi_range1 (by rfl) T.b_range (pa_cons (pe_op op_addP pe_int (pe_callD A.D_l_taken (hr.mono (by omega)) (passX rfl (takes_of rfl rfl rfl rfl)) (pa_cons (pv 0) (pa_cons (pv 1) pa_nil)))) pa_nil)) (pg_name (i := 4) nd rfl (by first | exact Or.inl rfl | exact Or.inr rfl)) (pss_one (ps_expr (pe_bm PySem.F.plainAttrs_list PySem.F.slot_list_append PySem.F.type_list_append mt_append (pv 3) (pa_cons (pe_bm PySem.F.plainAttrs_list PySem.F.slot_list_pop PySem.F.type_list_pop mt_popAt (pv 2) (pa_cons (pe_callD A.D_l_taken (hr.mono (by omega)) (passX rfl (takes_of rfl rfl rfl rfl)) (pa_cons (pv 0) (pa_cons (pe_callB c_len (by rfl) T.b_len bt_len (pa_cons (pv 2) pa_nil)) pa_nil))) pa_nil)) pa_nil))))) (pss_one (ps_ret (pv 3))))), body_ok (N := N_l_names) (f := b_l_names (call n)) (n := 2) (rs_seq (rs_par (ra_cons (re_lstC (ra_cons re_str (ra_cons re_str (ra_cons re_str (ra_cons re_str ra_nil))))) (ra_cons (re_lstC ra_nil) ra_nil))) (rs_seq (rs_for (ri_rng1 (ra_cons (re_op rop_add re_int (re_call (ra_cons re_var (ra_cons re_var ra_nil)))) ra_nil)) rg_name (rs_drop (re_bmC rm_append re_var (ra_cons (re_bmC rm_popAt re_var (ra_cons (re_call (ra_cons re_var (ra_cons (re_cb rc_len (ra_cons re_var ra_nil)) ra_nil))) ra_nil)) ra_nil)))) (rs_ret (re_fr re_var)))) hsp⟩
theorem ok_l_rules (T : Txt K mg) (A : All P w K mg base n) {f : Addr} {fd : FuncData} (F : Fun_l_rules K f fd) : KeepsAt P w K mg base (2 * n + 2) P_l_rules (spD K (n + 1) f_l_rules 1) f := by
  refine keeps (k := 2 * n + 1) F sc_l_rules spOf_len (fun _ _ _ _ _ _ us hl => match us, hl with | [_], _ => rfl) (fun cdv A' outer s H vs Q E hr hsp => ?_)
  have nd := sc_l_rules.nd
  exact ⟨_, (pss_cons (ps_set (i := 1) nd rfl (by first | exact Or.inl rfl | exact Or.inr rfl) (pe_lst pa_nil)) (pss_cons (ps_for (passes_of rfl) rfl (pi_list (pv 0)) (pg_name (i := 2) nd rfl (by first | exact Or.inl rfl | exact Or.inr rfl)) (pss_one (ps_set (i := 1) nd rfl (by first | exact Or.inl rfl | exact Or.inr rfl) (pe_op op_addP (pv 1) (pe_ifExp (pt_val (pe_callB call_isi (by rfl) T.b_isinstance bt_isinstance (pa_cons (pv 2) (pa_cons (pe_ty (by rfl) T.b_list bt_list) pa_nil)))) (pe_callD A.D_l_rules (hr.mono (by omega)) (passX rfl (takes_of rfl rfl rfl rfl)) (pa_cons (pv 2) pa_nil)) (pe_lst (pa_cons (pv 2) pa_nil))))))) (pss_one (ps_ret (pv 1))))), body_ok (N := N_l_rules) (f := b_l_rules (call n)) (n := 1) (rs_seq (rs_set (re_lst ra_nil)) (rs_seq (rs_for (ri_seq re_var) rg_name (rs_set (re_op rop_add re_var (re_if (rt_B (re_cb (rc_isi T.isf) (ra_cons re_var (ra_cons re_ty ra_nil)))) (re_call (ra_cons re_var ra_nil)) (re_lst (ra_cons re_var ra_nil)))))) (rs_ret re_var))) hsp⟩
theorem ok_l_modules (T : Txt K mg) (A : All P w K mg base n) {f : Addr} {fd : FuncData} (F : Fun_l_modules K f fd) : KeepsAt P w K mg base (2 * n + 2) P_l_modules (spD K (n + 1) f_l_modules 1) f := by
  refine keeps (k := 2 * n + 1) F sc_l_modules spOf_len (fun _ _ _ _ _ _ us hl => match us, hl with | [_], _ => rfl) (fun cdv A' outer s H vs Q E hr hsp => ?_)
  have nd := sc_l_modules.nd
  exact ⟨_, (pss_one (ps_ret (pe_sortSet rfl (by rfl) T.b_sorted (by rfl) T.b_set (pe_lc (own := [("_law_rule", 1)]) (g := gName 1) (tt := tYes) rfl nd (pi_list (pe_callD A.D_l_rules (hr.mono (by omega)) (passX rfl (takes_of rfl rfl rfl rfl)) (pa_cons (pv 0) pa_nil))) (blkOk_by (N := N_l_modules) (sc := defScope s_l_modules) (own := [("_law_rule", 1)]) (by decide +kernel)) (fun _ _ _ _ _ => (pg_name (i := 1) nd rfl (by first | exact Or.inl rfl | exact Or.inr rfl))) (fun _ _ _ _ _ => pts_nil) (fun _ _ _ _ _ => (pe_ix (ix_all hr.units) (pv 1) pe_int (fun _ _ => rfl))))))), body_ok (N := N_l_modules) (f := b_l_modules (call n)) (n := 1) (rs_ret (re_sortSet (re_lcN (os := [1]) (ri_seq (re_call (ra_cons re_var ra_nil))) (rgo_name (by decide)) rt_yes (re_nx (re_op rop_ixA re_var re_int))))) hsp⟩
theorem ok_l_made (T : Txt K mg) (A : All P w K mg base n) {f : Addr} {fd : FuncData} (F : Fun_l_made K f fd) : KeepsAt P w K mg base (2 * n + 2) P_l_made (spD K (n + 1) f_l_made 1) f := by
  refine keeps (k := 2 * n + 1) F sc_l_made spOf_len (fun _ _ _ _ _ _ us hl => match us, hl with | [_], _ => rfl) (fun cdv A' outer s H vs Q E hr hsp => ?_)
  have nd := sc_l_made.nd
  exact ⟨_, (pss_cons (ps_set (i := 1) nd rfl (by first | exact Or.inl rfl | exact Or.inr rfl) (pe_makeR0 A.D_Stack_init hr (passX rfl (takes_of rfl rfl rfl rfl)) (by rfl))) (pss_cons (ps_for (passes_of rfl) rfl (pi_list (pv 0)) (pg_name (i := 2) nd rfl (by first | exact Or.inl rfl | exact Or.inr rfl)) (pss_one (ps_set (i := 1) nd rfl (by first | exact Or.inl rfl | exact Or.inr rfl) (pe_op (op_ownAdd A.D_Stack___add__ T.add_Stack (hr.mono (by omega)) (passX rfl (takes_of rfl rfl rfl rfl))) (pv 1) (pe_makeRD A.D_Stack_init hr (passX rfl (takes_of rfl rfl rfl rfl)) (pa_cons (pe_ifExp (pt_val (pe_callB call_isi (by rfl) T.b_isinstance bt_isinstance (pa_cons (pv 2) (pa_cons (pe_ty (by rfl) T.b_list bt_list) pa_nil)))) (pe_callD A.D_l_made (hr.mono (by omega)) (passX rfl (takes_of rfl rfl rfl rfl)) (pa_cons (pv 2) pa_nil)) (pe_makeD A.D_Rule_init hr (passX rfl (takes_of rfl rfl rfl rfl)) (pa_cons (pe_ix (ix_all hr.units) (pv 2) pe_int (fun _ _ => rfl)) (pa_cons (pe_ix (ix_all hr.units) (pv 2) pe_int (fun _ _ => rfl)) pa_nil)))) pa_nil)))))) (pss_one (ps_ret (pv 1))))), body_ok (N := N_l_made) (f := b_l_made (call n)) (n := 1) (rs_seq (rs_set (re_makeR rfl ra_nil)) (rs_seq (rs_for (ri_seq re_var) rg_name (rs_set (re_op (rop_ownAdd rfl) re_var (re_makeR rfl (ra_cons (re_if (rt_B (re_cb (rc_isi T.isf) (ra_cons re_var (ra_cons re_ty ra_nil)))) (re_call (ra_cons re_var ra_nil)) (re_makeN rfl (ra_cons (re_op rop_ixA re_var re_int) (ra_cons (re_op rop_ixA re_var re_int) ra_nil)))) ra_nil))))) (rs_ret re_var))) hsp⟩
theorem ok_l_all (T : Txt K mg) (A : All P w K mg base n) {f : Addr} {fd : FuncData} (F : Fun_l_all K f fd) : KeepsAt P w K mg base (2 * n + 2) P_l_all (spD K (n + 1) f_l_all 1) f := by
  refine keeps (k := 2 * n + 1) F sc_l_all spOf_len (fun _ _ _ _ _ _ us hl => match us, hl with | [_], _ => rfl) (fun cdv A' outer s H vs Q E hr hsp => ?_)
  have nd := sc_l_all.nd
  exact ⟨_, (pss_cons (ps_set (i := 1) nd rfl (by first | exact Or.inl rfl | exact Or.inr rfl) (pe_lst (pa_cons (pe_tup pa_nil) pa_nil))) (pss_cons (ps_for (passes_of rfl) rfl (pi_list (pv 0)) (pg_name (i := 2) nd rfl (by first | exact Or.inl rfl | exact Or.inr rfl)) (pss_cons (ps_set (i := 3) nd rfl (by first | exact Or.inl rfl | exact Or.inr rfl) (pe_lst pa_nil)) (pss_cons (ps_for (passes_of rfl) rfl (pi_list (pv 1)) (pg_name (i := 4) nd rfl (by first | exact Or.inl rfl | exact Or.inr rfl)) (pss_one (ps_set (i := 3) nd rfl (by first | exact Or.inl rfl | exact Or.inr rfl) (pe_op op_addP (pv 3) (pe_lc (own := [("_law_result", 5)]) (g := gName 5) (tt := tYes) rfl nd (pi_tup (pe_tup (pa_cons pe_str (pa_cons pe_str (pa_cons pe_str (pa_cons pe_str pa_nil)))))) (blkOk_by (N := N_l_all) (sc := defScope s_l_all) (own := [("_law_result", 5)]) (by decide +kernel)) (fun _ _ _ _ _ => (pg_name (i := 5) nd rfl (by first | exact Or.inl rfl | exact Or.inr rfl))) (fun _ _ _ _ _ => pts_nil) (fun _ _ _ _ _ => (pe_op op_addP (pv 4) (pe_tup (pa_cons (pv 5) pa_nil))))))))) (pss_one (ps_set (i := 1) nd rfl (by first | exact Or.inl rfl | exact Or.inr rfl) (pv 3)))))) (pss_one (ps_ret (pe_lc (own := [("_law_some", 4)]) (g := gName 4) (tt := tYes) rfl nd (pi_list (pv 1)) (blkOk_by (N := N_l_all) (sc := defScope s_l_all) (own := [("_law_some", 4)]) (by decide +kernel)) (fun _ _ _ _ _ => (pg_name (i := 4) nd rfl (by first | exact Or.inl rfl | exact Or.inr rfl))) (fun _ _ _ _ _ => pts_nil) (fun _ _ _ _ _ => (pe_dictZip rfl (by rfl) T.b_dict (by rfl) T.b_zip (pa_cons (pv 0) (pa_cons (pv 4) pa_nil))))))))), body_ok (N := N_l_all) (f := b_l_all (call n)) (n := 1) (rs_seq (rs_set (re_lst (ra_cons (re_tup ra_nil) ra_nil))) (rs_seq (rs_for (ri_seq re_var) rg_name (rs_seq (rs_set (re_lst ra_nil)) (rs_seq (rs_for (ri_seq re_var) rg_name (rs_set (re_op rop_add re_var (re_lcN (os := [5]) (ri_tup (re_tup (ra_cons re_str (ra_cons re_str (ra_cons re_str (ra_cons re_str ra_nil)))))) (rgo_name (by decide)) rt_yes (re_nx (re_op rop_add re_var (re_tup (ra_cons re_var ra_nil)))))))) (rs_set re_var)))) (rs_ret (re_lcN (os := [4]) (ri_seq re_var) (rgo_name (by decide)) rt_yes (re_nx (re_dictZip (ra_cons re_var (ra_cons re_var ra_nil)))))))) hsp⟩
theorem ok_l_calm (T : Txt K mg) (A : All P w K mg base n) {f : Addr} {fd : FuncData} (F : Fun_l_calm K f fd) : KeepsAt P w K mg base (2 * n + 2) P_l_calm (spD K (n + 1) f_l_calm 3) f := by
  refine keeps (k := 2 * n + 1) F sc_l_calm spOf_len (fun _ _ _ _ _ _ us hl => match us, hl with | [_, _, _], _ => rfl) (fun cdv A' outer s H vs Q E hr hsp => ?_)
  have nd := sc_l_calm.nd
  exact ⟨_, (pss_cons (ps_asg (pe_tup (pa_cons (pe_lst (pa_cons pe_str (pa_cons pe_str (pa_cons pe_str pa_nil)))) (pa_cons (pe_lst pa_nil) pa_nil))) (pg_tup rfl (pgs_cons (pg_name (i := 3) nd rfl (by first | exact Or.inl rfl | exact Or.inr rfl)) (pgs_cons (pg_name (i := 4) nd rfl (by first | exact Or.inl rfl | exact Or.inr rfl)) pgs_nil)))) (pss_cons (ps_for (passes_of rfl) rfl (pi_range1 (by rfl) T.b_range (pa_cons (pe_callD A.D_l_taken (hr.mono (by omega)) (passX rfl (takes_of rfl rfl rfl rfl)) (pa_cons (pv 0) (pa_cons (pe_op op_addP (pv 2) pe_int) pa_nil))) pa_nil)) (pg_name (i := 5) nd rfl (by first | exact Or.inl rfl | exact Or.inr rfl)) (pss_one (ps_expr (pe_bm PySem.F.plainAttrs_list PySem.F.slot_list_append PySem.F.type_list_append mt_append (pv 4) (pa_cons (pe_tup (pa_cons (pe_callD A.D_l_pick (hr.mono (by omega)) (passX rfl (takes_of rfl rfl rfl rfl)) (pa_cons (pv 0) (pa_cons (pv 1) pa_nil))) (pa_cons (pe_callTy c_tupleOf (by rfl) T.b_tuple bt_tuple (pa_cons (pe_lc (own := [("_law_j", 6)]) (g := gName 6) (tt := tYes) rfl nd (pi_range1 (by rfl) T.b_range (pa_cons pe_int pa_nil)) (blkOk_by (N := N_l_calm) (sc := defScope s_l_calm) (own := [("_law_j", 6)]) (by decide +kernel)) (fun _ _ _ _ _ => (pg_name (i := 6) nd rfl (by first | exact Or.inl rfl | exact Or.inr rfl))) (fun _ _ _ _ _ => pts_nil) (fun _ _ _ _ _ => (pe_ix (ix_all hr.units) (pv 3) (pe_callD A.D_l_taken (hr.mono (by omega)) passL (pa_cons (pv 0) (pa_cons pe_int pa_nil))) (fun _ _ => rfl)))) pa_nil)) pa_nil))) pa_nil))))) (pss_one (ps_ret (pv 4))))), body_ok (N := N_l_calm) (f := b_l_calm (call n)) (n := 3) (rs_seq (rs_parT (ra_cons (re_lst (ra_cons re_str (ra_cons re_str (ra_cons re_str ra_nil)))) (ra_cons (re_lstC ra_nil) ra_nil))) (rs_seq (rs_for (ri_rng1 (ra_cons (re_call (ra_cons re_var (ra_cons (re_op rop_add re_var re_int) ra_nil))) ra_nil)) rg_name (rs_drop (re_bmC rm_append re_var (ra_cons (re_tup (ra_cons (re_call (ra_cons re_var (ra_cons re_var ra_nil))) (ra_cons (re_cb rc_tuple (ra_cons (re_lcN (os := [6]) (ri_rng1 (ra_cons re_int ra_nil)) (rgo_name (by decide)) rt_yes (re_nx (re_op rop_ixA re_var (re_call (ra_cons re_var (ra_cons re_int ra_nil)))))) ra_nil)) ra_nil))) ra_nil)))) (rs_ret (re_fr re_var)))) hsp⟩
theorem ok_law (T : Txt K mg) (A : All P w K mg base n) {f : Addr} {fd : FuncData} (F : Fun_law K f fd) : FnOk P w K mg base (L2.CX P w) (2 * n + 2) f fd P_law (spD K (n + 1) f_law 1) := by
  refine keepsF (k := 2 * n + 1) F sc_law spOf_len (fun cdv A' outer s H vs Q E hr hsp => ?_)
  have nd := sc_law.nd
  exact ⟨_, (pss_cons (ps_set (i := 1) nd rfl (by first | exact Or.inl rfl | exact Or.inr rfl) (pe_lst (pa_cons (pv 0) (pa_cons pe_int (pa_cons pe_int (pa_cons pe_int pa_nil)))))) (pss_cons (ps_set (i := 2) nd rfl (by first | exact Or.inl rfl | exact Or.inr rfl) (pe_callD A.D_l_names (hr.mono (by omega)) (passX rfl (takes_of rfl rfl rfl rfl)) (pa_cons (pv 1) (pa_cons pe_int pa_nil)))) (pss_cons (ps_par (i := 3) (j := 4) rfl nd rfl rfl (by decide) rfl rfl (pa_cons (pe_callD A.D_l_plain (hr.mono (by omega)) (passX rfl (takes_of rfl rfl rfl rfl)) (pa_cons (pv 1) (pa_cons (pv 2) (pa_cons pe_int (pa_cons pe_int (pa_cons pe_bl pa_nil)))))) (pa_cons (pe_callD A.D_l_calm (hr.mono (by omega)) (passX rfl (takes_of rfl rfl rfl rfl)) (pa_cons (pv 1) (pa_cons (pv 2) (pa_cons pe_int pa_nil)))) pa_nil)) (by rfl)) (pss_cons (ps_par (i := 5) (j := 6) rfl nd rfl rfl (by decide) rfl rfl (pa_cons (pe_callD A.D_l_made (hr.mono (by omega)) (passX rfl (takes_of rfl rfl rfl rfl)) (pa_cons (pv 3) pa_nil)) (pa_cons (pe_callD A.D_l_made (hr.mono (by omega)) (passX rfl (takes_of rfl rfl rfl rfl)) (pa_cons (pe_lst (pa_cons (pv 3) pa_nil)) pa_nil)) pa_nil)) (by rfl)) (pss_cons (ps_if (PW.pt (pw_or (pt_not (pt_val (pe_callD A.D_alike (hr.mono (by omega)) (passX rfl (takes_of rfl rfl rfl rfl)) (pa_cons (pv 5) (pa_cons (pv 6) pa_nil))))) (pw_or1 (pt_not (pt_val (pe_callD A.D_alike (hr.mono (by omega)) (passX rfl (takes_of rfl rfl rfl rfl)) (pa_cons (pv 6) (pa_cons (pv 5) pa_nil)))))))) (pss_one (ps_ret pe_bl)) pss_nil) (pss_cons (ps_set (i := 7) nd rfl (by first | exact Or.inl rfl | exact Or.inr rfl) (pe_callD A.D_l_taken (hr.mono (by omega)) (passX rfl (takes_of rfl rfl rfl rfl)) (pa_cons (pv 1) (pa_cons (pe_op op_addP (pe_callB c_len (by rfl) T.b_len bt_len (pa_cons (pv 4) pa_nil)) pe_int) pa_nil)))) (pss_cons (ps_set (i := 8) nd rfl (by first | exact Or.inl rfl | exact Or.inr rfl) (pe_lst (pa_cons (pv 4) (pa_cons (pe_lst (pa_cons (pv 4) pa_nil)) (pa_cons (pe_lc (own := [("_law_rule", 12)]) (g := gName 12) (tt := tYes) rfl nd (pi_list (pv 4)) (blkOk_by (N := N_law) (sc := defScope s_law) (own := [("_law_rule", 12)]) (by decide +kernel)) (fun _ _ _ _ _ => (pg_name (i := 12) nd rfl (by first | exact Or.inl rfl | exact Or.inr rfl))) (fun _ _ _ _ _ => pts_nil) (fun _ _ _ _ _ => (pe_lst (pa_cons (pv 12) pa_nil)))) (pa_cons (pe_lst (pa_cons (pe_slice sl_all (pv 4) po_none (po_some (pv 7))) (pa_cons (pe_lst pa_nil) (pa_cons (pe_slice sl_all (pv 4) (po_some (pv 7)) po_none) pa_nil)))) (pa_cons (pe_lst (pa_cons (pe_lst (pa_cons (pe_slice sl_all (pv 4) po_none (po_some (pv 7))) pa_nil)) (pa_cons (pe_slice sl_all (pv 4) (po_some (pv 7)) po_none) pa_nil))) pa_nil))))))) (pss_cons (ps_setLc (i := 9) (own := [("_law_one", 10)]) (g := gName 10) (tt := tYes) rfl nd rfl rfl (sw_true rfl rfl rfl (by decide +kernel)) (pi_list (pv 8)) (blkOk_by (N := N_law) (sc := defScope s_law) (own := [("_law_one", 10)]) (by decide +kernel)) (fun _ _ _ _ _ => (pg_name (i := 10) nd rfl (by first | exact Or.inl rfl | exact Or.inr rfl))) (fun _ _ _ _ _ => pts_nil) (fun _ _ _ _ _ => (pe_callD A.D_l_made (hr.mono (by omega)) passL (pa_cons (pv 10) pa_nil)))) (pss_cons (ps_for (passes_of rfl) rfl (pi_list (pv 9)) (pg_name (i := 10) nd rfl (by first | exact Or.inl rfl | exact Or.inr rfl)) (pss_cons (ps_if (pt_cmpR op_notN (pe_callD A.D_first_difference (hr.mono (by omega)) (passX rfl (takes_of rfl rfl rfl rfl)) (pa_cons (pe_ix (ix_all hr.units) (pv 9) pe_int (fun _ _ => rfl)) (pa_cons (pv 10) pa_nil))) pe_non (nomark _)) (pss_one (ps_ret pe_bl)) pss_nil) (pss_one (ps_for (passes_of rfl) rfl (pi_list (pe_callD A.D_l_all (hr.mono (by omega)) (passX rfl (takes_of rfl rfl rfl rfl)) (pa_cons (pe_callD A.D_l_modules (hr.mono (by omega)) (passX rfl (takes_of rfl rfl rfl rfl)) (pa_cons (pv 4) pa_nil)) pa_nil))) (pg_name (i := 11) nd rfl (by first | exact Or.inl rfl | exact Or.inr rfl)) (pss_cons (ps_if (pt_cmpR (op_neP hr.units) (pe_callD A.D_asked (hr.mono (by omega)) (passX rfl (takes_of rfl rfl rfl rfl)) (pa_cons (pv 10) (pa_cons (pv 11) pa_nil))) (pe_listRg rfl (by rfl) T.b_list (prg_1 (by rfl) T.b_range (pe_callB c_len (by rfl) T.b_len bt_len (pa_cons (pv 4) pa_nil)))) (nomark _)) (pss_one (ps_ret pe_bl)) pss_nil) (pss_one (ps_if (pt_cmpR (op_neP hr.units) (pe_callD A.D_blamed (hr.mono (by omega)) (passX rfl (takes_of rfl rfl rfl rfl)) (pa_cons (pv 10) (pa_cons (pv 11) pa_nil))) (pe_callD A.D_blamed (hr.mono (by omega)) (passX rfl (takes_of rfl rfl rfl rfl)) (pa_cons (pe_ix (ix_all hr.units) (pv 9) pe_int (fun _ _ => rfl)) (pa_cons (pv 11) pa_nil))) (nomark _)) (pss_one (ps_ret pe_bl)) pss_nil))))))) (pss_cons (ps_for (passes_of rfl) rfl (pi_list (pe_callD A.D_l_all (hr.mono (by omega)) (passX rfl (takes_of rfl rfl rfl rfl)) (pa_cons (pe_callD A.D_l_modules (hr.mono (by omega)) (passX rfl (takes_of rfl rfl rfl rfl)) (pa_cons (pv 3) pa_nil)) pa_nil))) (pg_name (i := 11) nd rfl (by first | exact Or.inl rfl | exact Or.inr rfl)) (pss_cons (ps_if (pt_cmpR (op_neP hr.units) (pe_callD A.D_asked (hr.mono (by omega)) (passX rfl (takes_of rfl rfl rfl rfl)) (pa_cons (pv 5) (pa_cons (pv 11) pa_nil))) (pe_callD A.D_asked (hr.mono (by omega)) (passX rfl (takes_of rfl rfl rfl rfl)) (pa_cons (pv 6) (pa_cons (pv 11) pa_nil))) (nomark _)) (pss_one (ps_ret pe_bl)) pss_nil) (pss_one (ps_if (pt_cmpR (op_neP hr.units) (pe_callD A.D_blamed (hr.mono (by omega)) (passX rfl (takes_of rfl rfl rfl rfl)) (pa_cons (pv 5) (pa_cons (pv 11) pa_nil))) (pe_callD A.D_blamed (hr.mono (by omega)) (passX rfl (takes_of rfl rfl rfl rfl)) (pa_cons (pv 6) (pa_cons (pv 11) pa_nil))) (nomark _)) (pss_one (ps_ret pe_bl)) pss_nil)))) (pss_one (ps_ret (pe_cmpR (op_eqP hr.units) (pe_callD A.D_free_pairs (hr.mono (by omega)) (passX rfl (takes_of rfl rfl rfl rfl)) (pa_cons (pe_callD A.D_l_made (hr.mono (by omega)) (passX rfl (takes_of rfl rfl rfl rfl)) (pa_cons (pe_lst (pa_cons (pe_lst pa_nil) (pa_cons (pv 3) (pa_cons (pe_lst pa_nil) pa_nil)))) pa_nil)) pa_nil)) (pe_lst (pa_cons pe_int (pa_cons pe_int pa_nil))) (nomark _)))))))))))))), body_ok (N := N_law) (f := b_law (call n)) (n := 1) (rs_seq (rs_set (re_lstC (ra_cons re_var (ra_cons re_int (ra_cons re_int (ra_cons re_int ra_nil)))))) (rs_seq (rs_set (re_call (ra_cons re_var (ra_cons re_int ra_nil)))) (rs_seq (rs_par (ra_cons (re_call (ra_cons re_var (ra_cons re_var (ra_cons re_int (ra_cons re_int (ra_cons re_bl ra_nil)))))) (ra_cons (re_call (ra_cons re_var (ra_cons re_var (ra_cons re_int ra_nil)))) ra_nil))) (rs_seq (rs_par (ra_cons (re_call (ra_cons re_var ra_nil)) (ra_cons (re_call (ra_cons (re_lst (ra_cons re_var ra_nil)) ra_nil)) ra_nil))) (rs_seq (rs_if (rt_or (rt_not (rt_B (re_call (ra_cons re_var (ra_cons re_var ra_nil))))) (rt_not (rt_B (re_call (ra_cons re_var (ra_cons re_var ra_nil)))))) (rs_ret re_bl) rs_next) (rs_seq (rs_set (re_call (ra_cons re_var (ra_cons (re_op rop_add (re_cb rc_len (ra_cons re_var ra_nil)) re_int) ra_nil)))) (rs_seq (rs_set (re_lst (ra_cons re_var (ra_cons (re_lst (ra_cons re_var ra_nil)) (ra_cons (re_lcN (os := [12]) (ri_seq re_var) (rgo_name (by decide)) rt_yes (re_nx (re_lst (ra_cons re_var ra_nil)))) (ra_cons (re_lst (ra_cons (re_slice re_var ro_no (ro_part re_var)) (ra_cons (re_lst ra_nil) (ra_cons (re_slice re_var (ro_part re_var) ro_no) ra_nil)))) (ra_cons (re_lst (ra_cons (re_lst (ra_cons (re_slice re_var ro_no (ro_part re_var)) ra_nil)) (ra_cons (re_slice re_var (ro_part re_var) ro_no) ra_nil))) ra_nil))))))) (rs_seq (rs_set (re_lcN (os := [10]) (ri_seq re_var) (rgo_name (by decide)) rt_yes (re_nx (re_call (ra_cons re_var ra_nil))))) (rs_seq (rs_for (ri_seq re_var) rg_name (rs_seq (rs_if (rt_test (re_op rop_notN (re_call (ra_cons (re_op rop_ixA re_var re_int) (ra_cons re_var ra_nil))) re_non)) (rs_ret re_bl) rs_next) (rs_for (ri_seq (re_call (ra_cons (re_call (ra_cons re_var ra_nil)) ra_nil))) rg_name (rs_seq (rs_if (rt_test (re_op rop_ne (re_call (ra_cons re_var (ra_cons re_var ra_nil))) (re_listRg (re_cb rc_len (ra_cons re_var ra_nil))))) (rs_ret re_bl) rs_next) (rs_if (rt_test (re_op rop_ne (re_call (ra_cons re_var (ra_cons re_var ra_nil))) (re_call (ra_cons (re_op rop_ixA re_var re_int) (ra_cons re_var ra_nil))))) (rs_ret re_bl) rs_next))))) (rs_seq (rs_for (ri_seq (re_call (ra_cons (re_call (ra_cons re_var ra_nil)) ra_nil))) rg_name (rs_seq (rs_if (rt_test (re_op rop_ne (re_call (ra_cons re_var (ra_cons re_var ra_nil))) (re_call (ra_cons re_var (ra_cons re_var ra_nil))))) (rs_ret re_bl) rs_next) (rs_if (rt_test (re_op rop_ne (re_call (ra_cons re_var (ra_cons re_var ra_nil))) (re_call (ra_cons re_var (ra_cons re_var ra_nil))))) (rs_ret re_bl) rs_next))) (rs_ret (re_op rop_eq (re_call (ra_cons (re_call (ra_cons (re_lst (ra_cons (re_lst ra_nil) (ra_cons re_var (ra_cons (re_lst ra_nil) ra_nil)))) ra_nil)) ra_nil)) (re_lst (ra_cons re_int (ra_cons re_int ra_nil))))))))))))))) hsp⟩
end
end T

set_option Elab.async false
set_option linter.all false
set_option maxRecDepth 100000
set_option maxHeartbeats 0
namespace T
open PySem PySem.Spec L2 G P He
def fn : List DefD := ([d_is_number, d_is_word, d_is_action, d_table_of, d_Rule_init, d_Rule_action_for, d_Stack_init, d_Stack___add__, d_steps_of, d_firsts_of, d_Run_init, d_Run_ended, d_Run_outcome, d_marked, d_need_answers, d_asked, d_blamed, d_all_answers, d_both_outcomes, d_first_difference, d_alike, d_free_pairs, d_l_taken, d_l_pick, d_l_table, d_l_plain, d_l_names, d_l_rules, d_l_modules, d_l_made, d_l_all, d_l_calm, d_law] : List DefD)
def fg : List He5.DefA := []
def fa : List Fa := ([.free "all", .free "bool", .free "dict", .free "enumerate", .free "int", .free "isinstance", .free "len", .free "list", .free "max", .free "min", .free "range", .free "set", .free "sorted", .free "str", .free "tuple", .free "zip", .glo "Rule", .glo "Run", .glo "Stack", .int "MOST_LETTERS" 8, .str "LETTERS" "abcdefghijklmnopqrstuvwxyz", .int "MOST_JUMP" 9, .glo "ACTIONS", .glo "RESULTS", .int "MOST_ENTRIES" 12, .int "MOST_MODULES" 6, .int "MOST_RULES" 12, .int "MOST_DEPTH" 3, .glo "NONE", .glo "GOOD", .str "DONE" "done", .str "DIE" "die", .str "IN" "in", .str "OUT" "out", .str "OK" "ok", .str "BAD" "bad", .str "RESET" "reset", .cls "Rule", .noat "Rule" "acts", .cls "Run"] : List Fa) ++ (([.noat "Run" "asked_rules", .noat "Rule" "asks", .cls "Stack", .noat "Stack" "depth", .noat "Run" "mark", .noat "Stack" "names", .noat "Stack" "parts", .noat "Stack" "steps", .noat "Run" "told", .glo "is_number", .glo "is_word", .glo "is_action", .glo "table_of", .mkr "Rule", .meth "Rule" "action_for", .mkr "Stack", .meth "Stack" "__add__", .glo "steps_of", .glo "firsts_of", .mkr "Run", .meth "Run" "ended", .meth "Run" "outcome", .glo "marked", .glo "need_answers", .glo "asked", .glo "blamed", .glo "all_answers", .glo "both_outcomes", .glo "first_difference", .glo "alike", .glo "free_pairs", .glo "_law_taken", .glo "_law_pick", .glo "_law_table", .glo "_law_plain", .glo "_law_names", .glo "_law_rules", .glo "_law_modules", .glo "_law_made", .glo "_law_all"] : List Fa) ++ (([.glo "_law_calm", .glo "law"] : List Fa)))
def ex (K : PySem.W.Frag) : Bool := vB K g_ACTIONS (.ref (ga K "ACTIONS")) && (vB K g_RESULTS (.ref (ga K "RESULTS")) && (vB K g_NONE (.ref (ga K "NONE")) && (vB K g_GOOD (.ref (ga K "GOOD")) && (tupKB K (ga K "RESULTS") k_RESULTS && (isFB K clss && (addB K (ga K "Stack")))))))
abbrev R : PySem.W.OpenRow := PySem.W.OpenLaw.row PySem.Challenge.rw_loginstacks_k19_whole_stacks_within_stac
abbrev hk : PySem.W.Hook := hookG 8 fa fn [] [] ex fg
def ob (s : PySem.W.SharedT) : AlG := obH 8 fa fn [] [] ex fg s
def names : List Str := ([Str.ofString "_wall", Str.ofString "__name__", Str.ofString "StackError", Str.ofString "InvalidRule", Str.ofString "InvalidStack", Str.ofString "InvalidAnswers", Str.ofString "TooMany", Str.ofString "YES", Str.ofString "NO", Str.ofString "SKIP", Str.ofString "GONE", Str.ofString "RESULTS", Str.ofString "OK", Str.ofString "BAD", Str.ofString "DIE", Str.ofString "DONE", Str.ofString "IGNORE", Str.ofString "RESET", Str.ofString "ACTIONS", Str.ofString "MOST_JUMP", Str.ofString "KINDS", Str.ofString "LETTERS", Str.ofString "MOST_LETTERS", Str.ofString "is_number", Str.ofString "is_word", Str.ofString "is_action", Str.ofString "table_of", Str.ofString "Rule", Str.ofString "MOST_ENTRIES", Str.ofString "MOST_RULES", Str.ofString "MOST_MODULES", Str.ofString "MOST_DEPTH", Str.ofString "Stack", Str.ofString "steps_of", Str.ofString "firsts_of", Str.ofString "IN", Str.ofString "OUT", Str.ofString "NONE", Str.ofString "GOOD", Str.ofString "Run"] : List Str) ++ (([Str.ofString "marked", Str.ofString "need_answers", Str.ofString "asked", Str.ofString "blamed", Str.ofString "all_answers", Str.ofString "both_outcomes", Str.ofString "first_difference", Str.ofString "alike", Str.ofString "free_pairs", Str.ofString "_law_taken", Str.ofString "_law_pick", Str.ofString "_law_table", Str.ofString "_law_plain", Str.ofString "_law_names", Str.ofString "_law_rules", Str.ofString "_law_modules", Str.ofString "_law_made", Str.ofString "_law_all", Str.ofString "_law_calm"] : List Str))
theorem run_t (w : World) : HandSHeadRun.RunEq R (PySem.W.view R.prog [66]) hk ob 20000 names (P.ovW "special-get-raises" true w) := by
  intro os
  kernel_rfl
theorem run_f (w : World) : HandSHeadRun.RunEq R (PySem.W.view R.prog [66]) hk ob 20000 names (P.ovW "special-get-raises" false w) := by
  intro os
  kernel_rfl
theorem run (w : World) : HandSHeadRun.RunEq R (PySem.W.view R.prog [66]) hk ob 20000 names w := by
  have h : ∀ b : Bool, HandSHeadRun.RunEq R (PySem.W.view R.prog [66]) hk ob 20000 names (P.ovW "special-get-raises" b w) := fun b => match b with
    | true => run_t w
    | false => run_f w
  have z := h (w.params.followText "special-get-raises")
  rwa [P.ovW_self] at z
theorem facts {P : Program} {w : World} {K : PySem.W.Frag} {h : Heap} {mg : Str → Option Value} {f : Addr} (X : K.In h) (G0 : h.Ns mainGlobals mg) (hfa : mg ("law" : Str) = some (.ref f)) (c : SaysG fa fn [] [] ex fg w h K) :
    ∃ fd : FuncData, (∀ (s : Shared) (v : Value), BindsTo s fd ⟨[v], []⟩ [("_law_script", v)]) ∧ ∀ base : Heap, K.In base → base.Ns mainGlobals mg → FnOk P w K mg base (L2.CX P w) (2 * 24 + 2) f fd ["_law_script"] (spD K (24 + 1) f_law 1) := by
  obtain ⟨fd_is_number, F_is_number⟩ := c.def_ 0 (d := d_is_number) rfl
  obtain ⟨fd_is_word, F_is_word⟩ := c.def_ 1 (d := d_is_word) rfl
  obtain ⟨fd_is_action, F_is_action⟩ := c.def_ 2 (d := d_is_action) rfl
  obtain ⟨fd_table_of, F_table_of⟩ := c.def_ 3 (d := d_table_of) rfl
  obtain ⟨fd_Rule_init, F_Rule_init⟩ := c.def_ 4 (d := d_Rule_init) rfl
  obtain ⟨fd_Rule_action_for, F_Rule_action_for⟩ := c.def_ 5 (d := d_Rule_action_for) rfl
  obtain ⟨fd_Stack_init, F_Stack_init⟩ := c.def_ 6 (d := d_Stack_init) rfl
  obtain ⟨fd_Stack___add__, F_Stack___add__⟩ := c.def_ 7 (d := d_Stack___add__) rfl
  obtain ⟨fd_steps_of, F_steps_of⟩ := c.def_ 8 (d := d_steps_of) rfl
  obtain ⟨fd_firsts_of, F_firsts_of⟩ := c.def_ 9 (d := d_firsts_of) rfl
  obtain ⟨fd_Run_init, F_Run_init⟩ := c.def_ 10 (d := d_Run_init) rfl
  obtain ⟨fd_Run_ended, F_Run_ended⟩ := c.def_ 11 (d := d_Run_ended) rfl
  obtain ⟨fd_Run_outcome, F_Run_outcome⟩ := c.def_ 12 (d := d_Run_outcome) rfl
  obtain ⟨fd_marked, F_marked⟩ := c.def_ 13 (d := d_marked) rfl
  obtain ⟨fd_need_answers, F_need_answers⟩ := c.def_ 14 (d := d_need_answers) rfl
  obtain ⟨fd_asked, F_asked⟩ := c.def_ 15 (d := d_asked) rfl
  obtain ⟨fd_blamed, F_blamed⟩ := c.def_ 16 (d := d_blamed) rfl
  obtain ⟨fd_all_answers, F_all_answers⟩ := c.def_ 17 (d := d_all_answers) rfl
  obtain ⟨fd_both_outcomes, F_both_outcomes⟩ := c.def_ 18 (d := d_both_outcomes) rfl
  obtain ⟨fd_first_difference, F_first_difference⟩ := c.def_ 19 (d := d_first_difference) rfl
  obtain ⟨fd_alike, F_alike⟩ := c.def_ 20 (d := d_alike) rfl
  obtain ⟨fd_free_pairs, F_free_pairs⟩ := c.def_ 21 (d := d_free_pairs) rfl
  obtain ⟨fd_l_taken, F_l_taken⟩ := c.def_ 22 (d := d_l_taken) rfl
  obtain ⟨fd_l_pick, F_l_pick⟩ := c.def_ 23 (d := d_l_pick) rfl
  obtain ⟨fd_l_table, F_l_table⟩ := c.def_ 24 (d := d_l_table) rfl
  obtain ⟨fd_l_plain, F_l_plain⟩ := c.def_ 25 (d := d_l_plain) rfl
  obtain ⟨fd_l_names, F_l_names⟩ := c.def_ 26 (d := d_l_names) rfl
  obtain ⟨fd_l_rules, F_l_rules⟩ := c.def_ 27 (d := d_l_rules) rfl
  obtain ⟨fd_l_modules, F_l_modules⟩ := c.def_ 28 (d := d_l_modules) rfl
  obtain ⟨fd_l_made, F_l_made⟩ := c.def_ 29 (d := d_l_made) rfl
  obtain ⟨fd_l_all, F_l_all⟩ := c.def_ 30 (d := d_l_all) rfl
  obtain ⟨fd_l_calm, F_l_calm⟩ := c.def_ 31 (d := d_l_calm) rfl
  obtain ⟨fd_law, F_law⟩ := c.def_ 32 (d := d_law) rfl
  obtain ⟨e0, m0⟩ := ba c.x.more
  obtain ⟨e1, m1⟩ := ba m0
  obtain ⟨e2, m2⟩ := ba m1
  obtain ⟨e3, m3⟩ := ba m2
  obtain ⟨e4, m4⟩ := ba m3
  obtain ⟨e5, m5⟩ := ba m4
  have e6 := m5
  have T0 : Txt K mg := {
    b_all := free_ok X G0 (c.fact 0 (f := .free "all") rfl)
    b_bool := free_ok X G0 (c.fact 1 (f := .free "bool") rfl)
    b_dict := free_ok X G0 (c.fact 2 (f := .free "dict") rfl)
    b_enumerate := free_ok X G0 (c.fact 3 (f := .free "enumerate") rfl)
    b_int := free_ok X G0 (c.fact 4 (f := .free "int") rfl)
    b_isinstance := free_ok X G0 (c.fact 5 (f := .free "isinstance") rfl)
    b_len := free_ok X G0 (c.fact 6 (f := .free "len") rfl)
    b_list := free_ok X G0 (c.fact 7 (f := .free "list") rfl)
    b_max := free_ok X G0 (c.fact 8 (f := .free "max") rfl)
    b_min := free_ok X G0 (c.fact 9 (f := .free "min") rfl)
    b_range := free_ok X G0 (c.fact 10 (f := .free "range") rfl)
    b_set := free_ok X G0 (c.fact 11 (f := .free "set") rfl)
    b_sorted := free_ok X G0 (c.fact 12 (f := .free "sorted") rfl)
    b_str := free_ok X G0 (c.fact 13 (f := .free "str") rfl)
    b_tuple := free_ok X G0 (c.fact 14 (f := .free "tuple") rfl)
    b_zip := free_ok X G0 (c.fact 15 (f := .free "zip") rfl)
    c_Rule := gl_ref X G0 (c.fact 16 (f := .glo "Rule") rfl)
    c_Run := gl_ref X G0 (c.fact 17 (f := .glo "Run") rfl)
    c_Stack := gl_ref X G0 (c.fact 18 (f := .glo "Stack") rfl)
    c_MOST_LETTERS := gl_int X G0 (c.fact 19 (f := .int "MOST_LETTERS" 8) rfl)
    c_LETTERS := gl_str X G0 (c.fact 20 (f := .str "LETTERS" "abcdefghijklmnopqrstuvwxyz") rfl)
    c_MOST_JUMP := gl_int X G0 (c.fact 21 (f := .int "MOST_JUMP" 9) rfl)
    c_ACTIONS := gl_ref X G0 (c.fact 22 (f := .glo "ACTIONS") rfl)
    r_ACTIONS := fun H => const_rep e0
    c_RESULTS := gl_ref X G0 (c.fact 23 (f := .glo "RESULTS") rfl)
    r_RESULTS := fun H => const_rep e1
    c_MOST_ENTRIES := gl_int X G0 (c.fact 24 (f := .int "MOST_ENTRIES" 12) rfl)
    c_MOST_MODULES := gl_int X G0 (c.fact 25 (f := .int "MOST_MODULES" 6) rfl)
    c_MOST_RULES := gl_int X G0 (c.fact 26 (f := .int "MOST_RULES" 12) rfl)
    c_MOST_DEPTH := gl_int X G0 (c.fact 27 (f := .int "MOST_DEPTH" 3) rfl)
    c_NONE := gl_ref X G0 (c.fact 28 (f := .glo "NONE") rfl)
    r_NONE := fun H => const_rep e2
    c_GOOD := gl_ref X G0 (c.fact 29 (f := .glo "GOOD") rfl)
    r_GOOD := fun H => const_rep e3
    c_DONE := gl_str X G0 (c.fact 30 (f := .str "DONE" "done") rfl)
    c_DIE := gl_str X G0 (c.fact 31 (f := .str "DIE" "die") rfl)
    c_IN := gl_str X G0 (c.fact 32 (f := .str "IN" "in") rfl)
    c_OUT := gl_str X G0 (c.fact 33 (f := .str "OUT" "out") rfl)
    c_OK := gl_str X G0 (c.fact 34 (f := .str "OK" "ok") rfl)
    c_BAD := gl_str X G0 (c.fact 35 (f := .str "BAD" "bad") rfl)
    c_RESET := gl_str X G0 (c.fact 36 (f := .str "RESET" "reset") rfl)
    k_RESULTS := tupKB_ok e4
    n_acts := ⟨fun c hc => by
      simp only [List.mem_cons, List.not_mem_nil, or_false] at hc
      subst hc
      · exact ⟨cls_ok (c.fact 37 (f := .cls "Rule") rfl), noat_ok (c.fact 38 (f := .noat "Rule" "acts") rfl)⟩⟩
    n_asked_rules := ⟨fun c hc => by
      simp only [List.mem_cons, List.not_mem_nil, or_false] at hc
      subst hc
      · exact ⟨cls_ok (c.fact 39 (f := .cls "Run") rfl), noat_ok (c.fact 40 (f := .noat "Run" "asked_rules") rfl)⟩⟩
    n_asks := ⟨fun c hc => by
      simp only [List.mem_cons, List.not_mem_nil, or_false] at hc
      subst hc
      · exact ⟨cls_ok (c.fact 37 (f := .cls "Rule") rfl), noat_ok (c.fact 41 (f := .noat "Rule" "asks") rfl)⟩⟩
    n_depth := ⟨fun c hc => by
      simp only [List.mem_cons, List.not_mem_nil, or_false] at hc
      subst hc
      · exact ⟨cls_ok (c.fact 42 (f := .cls "Stack") rfl), noat_ok (c.fact 43 (f := .noat "Stack" "depth") rfl)⟩⟩
    n_mark := ⟨fun c hc => by
      simp only [List.mem_cons, List.not_mem_nil, or_false] at hc
      subst hc
      · exact ⟨cls_ok (c.fact 39 (f := .cls "Run") rfl), noat_ok (c.fact 44 (f := .noat "Run" "mark") rfl)⟩⟩
    n_names := ⟨fun c hc => by
      simp only [List.mem_cons, List.not_mem_nil, or_false] at hc
      subst hc
      · exact ⟨cls_ok (c.fact 42 (f := .cls "Stack") rfl), noat_ok (c.fact 45 (f := .noat "Stack" "names") rfl)⟩⟩
    n_parts := ⟨fun c hc => by
      simp only [List.mem_cons, List.not_mem_nil, or_false] at hc
      subst hc
      · exact ⟨cls_ok (c.fact 42 (f := .cls "Stack") rfl), noat_ok (c.fact 46 (f := .noat "Stack" "parts") rfl)⟩⟩
    n_steps := ⟨fun c hc => by
      simp only [List.mem_cons, List.not_mem_nil, or_false] at hc
      subst hc
      · exact ⟨cls_ok (c.fact 42 (f := .cls "Stack") rfl), noat_ok (c.fact 47 (f := .noat "Stack" "steps") rfl)⟩⟩
    n_told := ⟨fun c hc => by
      simp only [List.mem_cons, List.not_mem_nil, or_false] at hc
      subst hc
      · exact ⟨cls_ok (c.fact 39 (f := .cls "Run") rfl), noat_ok (c.fact 48 (f := .noat "Run" "told") rfl)⟩⟩
    isf := isFB_ok e5 (fun c hc => by
      simp only [List.mem_cons, List.not_mem_nil, or_false] at hc
      rcases hc with rfl | rfl | rfl
      · exact cls_ok (c.fact 37 (f := .cls "Rule") rfl)
      · exact cls_ok (c.fact 39 (f := .cls "Run") rfl)
      · exact cls_ok (c.fact 42 (f := .cls "Stack") rfl))
    add_Stack := addB_ok e6 }
  have e := hfa.symm.trans (glo_ok X G0 (c.fact 81 (f := .glo "law") rfl))
  cases e
  have b := FunD.bindsA (ps := ["_law_script"]) F_law fun _ _ _ _ _ _ us hl => match us, hl with | [_], _ => rfl
  refine ⟨fd_law, fun s v => b s [v] rfl, fun base _ _ => ?_⟩
  have al : ∀ n, All P w K mg base n := by
    intro n
    induction n with
    | zero => exact {
      D_is_number := ⟨⟨_, (keeps0 (ps := P_is_number) F_is_number (fun _ _ _ _ _ _ us hl => match us, hl with | [_, _, _], _ => rfl)), F_is_number.kp, glo_ok X G0 (c.fact 49 (f := .glo "is_number") rfl)⟩⟩
      D_is_word := ⟨⟨_, (keeps0 (ps := P_is_word) F_is_word (fun _ _ _ _ _ _ us hl => match us, hl with | [_], _ => rfl)), F_is_word.kp, glo_ok X G0 (c.fact 50 (f := .glo "is_word") rfl)⟩⟩
      D_is_action := ⟨⟨_, (keeps0 (ps := P_is_action) F_is_action (fun _ _ _ _ _ _ us hl => match us, hl with | [_], _ => rfl)), F_is_action.kp, glo_ok X G0 (c.fact 51 (f := .glo "is_action") rfl)⟩⟩
      D_table_of := ⟨⟨_, (keeps0 (ps := P_table_of) F_table_of (fun _ _ _ _ _ _ us hl => match us, hl with | [_], _ => rfl)), F_table_of.kp, glo_ok X G0 (c.fact 52 (f := .glo "table_of") rfl)⟩⟩
      D_Rule_init := ⟨⟨_, (keeps0 (ps := P_Rule_init) F_Rule_init (fun _ _ _ _ _ _ us hl => match us, hl with | [_, _, _], _ => rfl)), mkr_ok (c.fact 53 (f := .mkr "Rule") rfl)⟩, glo_ok X G0 (c.fact 16 (f := .glo "Rule") rfl)⟩
      D_Rule_action_for := ⟨⟨_, (keeps0 (ps := P_Rule_action_for) F_Rule_action_for (fun _ _ _ _ _ _ us hl => match us, hl with | [_, _], _ => rfl)), meth_ok (c.fact 54 (f := .meth "Rule" "action_for") rfl)⟩, cls_ok (c.fact 37 (f := .cls "Rule") rfl)⟩
      D_Stack_init := ⟨⟨_, (keepsStar0), mkr_ok (c.fact 55 (f := .mkr "Stack") rfl)⟩, glo_ok X G0 (c.fact 18 (f := .glo "Stack") rfl)⟩
      D_Stack___add__ := ⟨⟨_, (keeps0 (ps := P_Stack___add__) F_Stack___add__ (fun _ _ _ _ _ _ us hl => match us, hl with | [_, _], _ => rfl)), meth_ok (c.fact 56 (f := .meth "Stack" "__add__") rfl)⟩, cls_ok (c.fact 42 (f := .cls "Stack") rfl)⟩
      D_steps_of := ⟨⟨_, (keeps0 (ps := P_steps_of) F_steps_of (fun _ _ _ _ _ _ us hl => match us, hl with | [_], _ => rfl)), F_steps_of.kp, glo_ok X G0 (c.fact 57 (f := .glo "steps_of") rfl)⟩⟩
      D_firsts_of := ⟨⟨_, (keeps0 (ps := P_firsts_of) F_firsts_of (fun _ _ _ _ _ _ us hl => match us, hl with | [_, _], _ => rfl)), F_firsts_of.kp, glo_ok X G0 (c.fact 58 (f := .glo "firsts_of") rfl)⟩⟩
      D_Run_init := ⟨⟨_, (keeps0 (ps := P_Run_init) F_Run_init (fun _ _ _ _ _ _ us hl => match us, hl with | [_, _, _], _ => rfl)), mkr_ok (c.fact 59 (f := .mkr "Run") rfl)⟩, glo_ok X G0 (c.fact 17 (f := .glo "Run") rfl)⟩
      D_Run_ended := ⟨⟨_, (keeps0 (ps := P_Run_ended) F_Run_ended (fun _ _ _ _ _ _ us hl => match us, hl with | [_, _, _, _], _ => rfl)), meth_ok (c.fact 60 (f := .meth "Run" "ended") rfl)⟩, cls_ok (c.fact 39 (f := .cls "Run") rfl)⟩
      D_Run_outcome := ⟨⟨_, (keeps0 (ps := P_Run_outcome) F_Run_outcome (fun _ _ _ _ _ _ us hl => match us, hl with | [_], _ => rfl)), meth_ok (c.fact 61 (f := .meth "Run" "outcome") rfl)⟩, cls_ok (c.fact 39 (f := .cls "Run") rfl)⟩
      D_marked := ⟨⟨_, (keeps0 (ps := P_marked) F_marked (fun _ _ _ _ _ _ us hl => match us, hl with | [_, _, _, _], _ => rfl)), F_marked.kp, glo_ok X G0 (c.fact 62 (f := .glo "marked") rfl)⟩⟩
      D_need_answers := ⟨⟨_, (keeps0 (ps := P_need_answers) F_need_answers (fun _ _ _ _ _ _ us hl => match us, hl with | [_, _, _], _ => rfl)), F_need_answers.kp, glo_ok X G0 (c.fact 63 (f := .glo "need_answers") rfl)⟩⟩
      D_asked := ⟨⟨_, (keeps0 (ps := P_asked) F_asked (fun _ _ _ _ _ _ us hl => match us, hl with | [_, _], _ => rfl)), F_asked.kp, glo_ok X G0 (c.fact 64 (f := .glo "asked") rfl)⟩⟩
      D_blamed := ⟨⟨_, (keeps0 (ps := P_blamed) F_blamed (fun _ _ _ _ _ _ us hl => match us, hl with | [_, _], _ => rfl)), F_blamed.kp, glo_ok X G0 (c.fact 65 (f := .glo "blamed") rfl)⟩⟩
      D_all_answers := ⟨⟨_, (keeps0 (ps := P_all_answers) F_all_answers (fun _ _ _ _ _ _ us hl => match us, hl with | [_], _ => rfl)), F_all_answers.kp, glo_ok X G0 (c.fact 66 (f := .glo "all_answers") rfl)⟩⟩
      D_both_outcomes := ⟨⟨_, (keeps0 (ps := P_both_outcomes) F_both_outcomes (fun _ _ _ _ _ _ us hl => match us, hl with | [_, _], _ => rfl)), F_both_outcomes.kp, glo_ok X G0 (c.fact 67 (f := .glo "both_outcomes") rfl)⟩⟩
      D_first_difference := ⟨⟨_, (keeps0 (ps := P_first_difference) F_first_difference (fun _ _ _ _ _ _ us hl => match us, hl with | [_, _], _ => rfl)), F_first_difference.kp, glo_ok X G0 (c.fact 68 (f := .glo "first_difference") rfl)⟩⟩
      D_alike := ⟨⟨_, (keeps0 (ps := P_alike) F_alike (fun _ _ _ _ _ _ us hl => match us, hl with | [_, _], _ => rfl)), F_alike.kp, glo_ok X G0 (c.fact 69 (f := .glo "alike") rfl)⟩⟩
      D_free_pairs := ⟨⟨_, (keeps0 (ps := P_free_pairs) F_free_pairs (fun _ _ _ _ _ _ us hl => match us, hl with | [_], _ => rfl)), F_free_pairs.kp, glo_ok X G0 (c.fact 70 (f := .glo "free_pairs") rfl)⟩⟩
      D_l_taken := ⟨⟨_, (keeps0 (ps := P_l_taken) F_l_taken (fun _ _ _ _ _ _ us hl => match us, hl with | [_, _], _ => rfl)), F_l_taken.kp, glo_ok X G0 (c.fact 71 (f := .glo "_law_taken") rfl)⟩⟩
      D_l_pick := ⟨⟨_, (keeps0 (ps := P_l_pick) F_l_pick (fun _ _ _ _ _ _ us hl => match us, hl with | [_, _], _ => rfl)), F_l_pick.kp, glo_ok X G0 (c.fact 72 (f := .glo "_law_pick") rfl)⟩⟩
      D_l_table := ⟨⟨_, (keeps0 (ps := P_l_table) F_l_table (fun _ _ _ _ _ _ us hl => match us, hl with | [_, _], _ => rfl)), F_l_table.kp, glo_ok X G0 (c.fact 73 (f := .glo "_law_table") rfl)⟩⟩
      D_l_plain := ⟨⟨_, (keeps0 (ps := P_l_plain) F_l_plain (fun _ _ _ _ _ _ us hl => match us, hl with | [_, _, _, _, _], _ => rfl)), F_l_plain.kp, glo_ok X G0 (c.fact 74 (f := .glo "_law_plain") rfl)⟩⟩
      D_l_names := ⟨⟨_, (keeps0 (ps := P_l_names) F_l_names (fun _ _ _ _ _ _ us hl => match us, hl with | [_, _], _ => rfl)), F_l_names.kp, glo_ok X G0 (c.fact 75 (f := .glo "_law_names") rfl)⟩⟩
      D_l_rules := ⟨⟨_, (keeps0 (ps := P_l_rules) F_l_rules (fun _ _ _ _ _ _ us hl => match us, hl with | [_], _ => rfl)), F_l_rules.kp, glo_ok X G0 (c.fact 76 (f := .glo "_law_rules") rfl)⟩⟩
      D_l_modules := ⟨⟨_, (keeps0 (ps := P_l_modules) F_l_modules (fun _ _ _ _ _ _ us hl => match us, hl with | [_], _ => rfl)), F_l_modules.kp, glo_ok X G0 (c.fact 77 (f := .glo "_law_modules") rfl)⟩⟩
      D_l_made := ⟨⟨_, (keeps0 (ps := P_l_made) F_l_made (fun _ _ _ _ _ _ us hl => match us, hl with | [_], _ => rfl)), F_l_made.kp, glo_ok X G0 (c.fact 78 (f := .glo "_law_made") rfl)⟩⟩
      D_l_all := ⟨⟨_, (keeps0 (ps := P_l_all) F_l_all (fun _ _ _ _ _ _ us hl => match us, hl with | [_], _ => rfl)), F_l_all.kp, glo_ok X G0 (c.fact 79 (f := .glo "_law_all") rfl)⟩⟩
      D_l_calm := ⟨⟨_, (keeps0 (ps := P_l_calm) F_l_calm (fun _ _ _ _ _ _ us hl => match us, hl with | [_, _, _], _ => rfl)), F_l_calm.kp, glo_ok X G0 (c.fact 80 (f := .glo "_law_calm") rfl)⟩⟩ }
    | succ n A => exact {
      D_is_number := ⟨⟨_, (ok_is_number T0 A F_is_number), F_is_number.kp, glo_ok X G0 (c.fact 49 (f := .glo "is_number") rfl)⟩⟩
      D_is_word := ⟨⟨_, (ok_is_word T0 A F_is_word), F_is_word.kp, glo_ok X G0 (c.fact 50 (f := .glo "is_word") rfl)⟩⟩
      D_is_action := ⟨⟨_, (ok_is_action T0 A F_is_action), F_is_action.kp, glo_ok X G0 (c.fact 51 (f := .glo "is_action") rfl)⟩⟩
      D_table_of := ⟨⟨_, (ok_table_of T0 A F_table_of), F_table_of.kp, glo_ok X G0 (c.fact 52 (f := .glo "table_of") rfl)⟩⟩
      D_Rule_init := ⟨⟨_, (ok_Rule_init T0 A F_Rule_init), mkr_ok (c.fact 53 (f := .mkr "Rule") rfl)⟩, glo_ok X G0 (c.fact 16 (f := .glo "Rule") rfl)⟩
      D_Rule_action_for := ⟨⟨_, (ok_Rule_action_for T0 A F_Rule_action_for), meth_ok (c.fact 54 (f := .meth "Rule" "action_for") rfl)⟩, cls_ok (c.fact 37 (f := .cls "Rule") rfl)⟩
      D_Stack_init := ⟨⟨_, (ok_Stack_init T0 A F_Stack_init), mkr_ok (c.fact 55 (f := .mkr "Stack") rfl)⟩, glo_ok X G0 (c.fact 18 (f := .glo "Stack") rfl)⟩
      D_Stack___add__ := ⟨⟨_, (ok_Stack___add__ T0 A F_Stack___add__), meth_ok (c.fact 56 (f := .meth "Stack" "__add__") rfl)⟩, cls_ok (c.fact 42 (f := .cls "Stack") rfl)⟩
      D_steps_of := ⟨⟨_, (ok_steps_of T0 A F_steps_of), F_steps_of.kp, glo_ok X G0 (c.fact 57 (f := .glo "steps_of") rfl)⟩⟩
      D_firsts_of := ⟨⟨_, (ok_firsts_of T0 A F_firsts_of), F_firsts_of.kp, glo_ok X G0 (c.fact 58 (f := .glo "firsts_of") rfl)⟩⟩
      D_Run_init := ⟨⟨_, (ok_Run_init T0 A F_Run_init), mkr_ok (c.fact 59 (f := .mkr "Run") rfl)⟩, glo_ok X G0 (c.fact 17 (f := .glo "Run") rfl)⟩
      D_Run_ended := ⟨⟨_, (ok_Run_ended T0 A F_Run_ended), meth_ok (c.fact 60 (f := .meth "Run" "ended") rfl)⟩, cls_ok (c.fact 39 (f := .cls "Run") rfl)⟩
      D_Run_outcome := ⟨⟨_, (ok_Run_outcome T0 A F_Run_outcome), meth_ok (c.fact 61 (f := .meth "Run" "outcome") rfl)⟩, cls_ok (c.fact 39 (f := .cls "Run") rfl)⟩
      D_marked := ⟨⟨_, (ok_marked T0 A F_marked), F_marked.kp, glo_ok X G0 (c.fact 62 (f := .glo "marked") rfl)⟩⟩
      D_need_answers := ⟨⟨_, (ok_need_answers T0 A F_need_answers), F_need_answers.kp, glo_ok X G0 (c.fact 63 (f := .glo "need_answers") rfl)⟩⟩
      D_asked := ⟨⟨_, (ok_asked T0 A F_asked), F_asked.kp, glo_ok X G0 (c.fact 64 (f := .glo "asked") rfl)⟩⟩
      D_blamed := ⟨⟨_, (ok_blamed T0 A F_blamed), F_blamed.kp, glo_ok X G0 (c.fact 65 (f := .glo "blamed") rfl)⟩⟩
      D_all_answers := ⟨⟨_, (ok_all_answers T0 A F_all_answers), F_all_answers.kp, glo_ok X G0 (c.fact 66 (f := .glo "all_answers") rfl)⟩⟩
      D_both_outcomes := ⟨⟨_, (ok_both_outcomes T0 A F_both_outcomes), F_both_outcomes.kp, glo_ok X G0 (c.fact 67 (f := .glo "both_outcomes") rfl)⟩⟩
      D_first_difference := ⟨⟨_, (ok_first_difference T0 A F_first_difference), F_first_difference.kp, glo_ok X G0 (c.fact 68 (f := .glo "first_difference") rfl)⟩⟩
      D_alike := ⟨⟨_, (ok_alike T0 A F_alike), F_alike.kp, glo_ok X G0 (c.fact 69 (f := .glo "alike") rfl)⟩⟩
      D_free_pairs := ⟨⟨_, (ok_free_pairs T0 A F_free_pairs), F_free_pairs.kp, glo_ok X G0 (c.fact 70 (f := .glo "free_pairs") rfl)⟩⟩
      D_l_taken := ⟨⟨_, (ok_l_taken T0 A F_l_taken), F_l_taken.kp, glo_ok X G0 (c.fact 71 (f := .glo "_law_taken") rfl)⟩⟩
      D_l_pick := ⟨⟨_, (ok_l_pick T0 A F_l_pick), F_l_pick.kp, glo_ok X G0 (c.fact 72 (f := .glo "_law_pick") rfl)⟩⟩
      D_l_table := ⟨⟨_, (ok_l_table T0 A F_l_table), F_l_table.kp, glo_ok X G0 (c.fact 73 (f := .glo "_law_table") rfl)⟩⟩
      D_l_plain := ⟨⟨_, (ok_l_plain T0 A F_l_plain), F_l_plain.kp, glo_ok X G0 (c.fact 74 (f := .glo "_law_plain") rfl)⟩⟩
      D_l_names := ⟨⟨_, (ok_l_names T0 A F_l_names), F_l_names.kp, glo_ok X G0 (c.fact 75 (f := .glo "_law_names") rfl)⟩⟩
      D_l_rules := ⟨⟨_, (ok_l_rules T0 A F_l_rules), F_l_rules.kp, glo_ok X G0 (c.fact 76 (f := .glo "_law_rules") rfl)⟩⟩
      D_l_modules := ⟨⟨_, (ok_l_modules T0 A F_l_modules), F_l_modules.kp, glo_ok X G0 (c.fact 77 (f := .glo "_law_modules") rfl)⟩⟩
      D_l_made := ⟨⟨_, (ok_l_made T0 A F_l_made), F_l_made.kp, glo_ok X G0 (c.fact 78 (f := .glo "_law_made") rfl)⟩⟩
      D_l_all := ⟨⟨_, (ok_l_all T0 A F_l_all), F_l_all.kp, glo_ok X G0 (c.fact 79 (f := .glo "_law_all") rfl)⟩⟩
      D_l_calm := ⟨⟨_, (ok_l_calm T0 A F_l_calm), F_l_calm.kp, glo_ok X G0 (c.fact 80 (f := .glo "_law_calm") rfl)⟩⟩ }
  exact ok_law T0 (al 24) F_law
end T
open PySem PySem.W PySem.Calls PyProof.Rows
theorem PySem.Challenge.cw_loginstacks_k19_whole_stacks_within_stac_holds : PySem.Challenge.rw_loginstacks_k19_whole_stacks_within_stac.Holds := by
  w_on; o_law
  refine HandSHeadRun.head_any (r := OpenLaw.row PySem.Challenge.rw_loginstacks_k19_whole_stacks_within_stac) (q := view (OpenLaw.row PySem.Challenge.rw_loginstacks_k19_whole_stacks_within_stac).prog [66]) (H := T.hk) (ob := T.ob) (M := 20000) (loose := T.names) (d := HandSHeadRun.topDef (OpenLaw.row PySem.Challenge.rw_loginstacks_k19_whole_stacks_within_stac).prog 66) (kwd := []) G.obH_eq
    (by kernel_rfl) (fun s => by kernel_rfl) T.run (by kernel_rfl) (by kernel_rfl) (by kernel_rfl) (by rfl) (by first | assumption | decide +kernel) (by decide +kernel) ⟨rfl, rfl, rfl, rfl, rfl, by decide +kernel⟩ ?hw ?hc
  case hw => w_witness2
  case hc =>
    refine G.walk_G (l := PySem.Challenge.rw_loginstacks_k19_whole_stacks_within_stac) (n := 63) (k := 50) (x := "_law_script") rfl (by decide) (by kernel_rfl) ⟨rfl, by decide, by decide⟩ ?F
    intro w mg fa h Y G0 hmg0
    obtain ⟨K, KX, c⟩ := Y
    have hmg : mg ("law" : PySem.Str) = some (.ref fa) := by
      have e : (HandSHeadRun.topDef (OpenLaw.row PySem.Challenge.rw_loginstacks_k19_whole_stacks_within_stac).prog 66).name = ("law" : PySem.Str) := by kernel_rfl
      rw [← e]
      exact hmg0
    obtain ⟨fd, hb, hF⟩ := T.facts (P := (PySem.Challenge.rw_loginstacks_k19_whole_stacks_within_stac).prog) (w := w) KX G0 hmg c
    exact ⟨K, fd, T.spD K (24 + 1) T.f_law 1, KX, hb, fun H a ns hl hO hS => P.law_end hS (T.law_ok (n := 24 + 1) (Q := fun r _ => r = P.EV.v (P.PV.bl true)) (X := P.noX) (by decide) ns (fun _ => rfl)), hF⟩

