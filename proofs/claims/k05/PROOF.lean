import PyProof.Rows.All
import Wide.All
import OpenK.AllK
import Wide.FinOn
import HandS.ForMost
import HandS.ForExc
import HandS.More
import HandS.Conv
import HandS.Codes
import HandS.Strs
import HandS.SortInts
import HandS.TryMany
import HandS.ExcIs
import HandS.IsInst
import HandS.Deep
import HandS.Zip
import HandS.Flow
import HandS.Rev
import HandS.TupLe
import HandS.ListEq
import HandS.Defaults
import HandS.Head0
import HandS.Head1
import HandS.Head2
import HandS.HeadEnd
import HandS.HeadHook1
import HandS.HeadHook2
import PySem.Challenge.RW_cordkeep_k05_texts_refused
set_option Elab.async false
set_option linter.all false
set_option maxRecDepth 100000
set_option maxHeartbeats 4000000
/-! ## CorA -/
/-! ### the head's facts: any tests of the written part, and the defs -/
namespace Cor
open PySem PySem.Spec PyProof.Rows L2
abbrev Pd : Type := PySem.W.Frag → Bool
def obsP (ps : List Pd) (fn : List He.DefD) (K : PySem.W.Frag) : He.AlD := ((ps.all fun p => p K) && fn.all fun d => d.ok K, fn.map fun d => He.fnW K d.at_)
def SaysP (ps : List Pd) (fn : List He.DefD) (K : PySem.W.Frag) : Prop := obsP ps fn K = He.valD fn
def obsPG (n : Nat) (ps : List Pd) (fn : List He.DefD) (g : Addr → Option Obj) : He.AlD := obsP ps fn (He.frG g (He.asD g n))
def hookP (n : Nat) (ps : List Pd) (fn : List He.DefD) : PySem.W.Hook where
  α := He.AlD
  obs := fun s => obsPG n ps fn s.heap.get?
  val := fun _ => He.valD fn
  says := fun _ h => ∃ K : PySem.W.Frag, K.In h ∧ SaysP ps fn K
  of := fun _ _ e => ⟨_, He.frG_in, e⟩
  keeps := fun _ _ _ ⟨K, hK, c⟩ k => ⟨K, PySem.W.Frag.In.keeps hK k, c⟩
theorem obsPG_eq {n : Nat} {ps : List Pd} {fn : List He.DefD} {g : Addr → Option Obj} {s : Shared} (h : ∀ a, g a = s.heap.get? a) : obsPG n ps fn g = (hookP n ps fn).obs s := by
  have e : g = s.heap.get? := funext h
  rw [e] <;> rfl
section
variable {ps : List Pd} {fn : List He.DefD} {K : PySem.W.Frag}
theorem SaysP.fact (c : SaysP ps fn K) (i : Nat) {p : Pd} (h : ps[i]? = some p := by rfl) : p K = true := by
  have c1 := (He.ba (show ((ps.all fun p => p K) && fn.all fun d => d.ok K) = true from congrArg (fun z : He.AlD => z.1) c)).1
  exact List.all_eq_true.mp c1 p (List.mem_of_getElem? h)
theorem SaysP.def_ (c : SaysP ps fn K) (i : Nat) {d : He.DefD} (h : fn[i]? = some d := by rfl) : ∃ fd, FunD K d.name d.qual d.params d.body d.scope (d.dvs K) (d.kws K) (He.fAd K d.at_) fd := by
  have c2 := (He.ba (show ((ps.all fun p => p K) && fn.all fun d => d.ok K) = true from congrArg (fun z : He.AlD => z.1) c)).2
  have e : fn.map (fun d => He.fnW K d.at_) = fn.map He.DefD.val := congrArg (fun z : He.AlD => z.2) c
  have e2 : (fn.map fun d => He.fnW K d.at_)[i]? = (fn.map He.DefD.val)[i]? := by rw [e]
  rw [List.getElem?_map, List.getElem?_map, h] at e2
  exact He.DefD.funD (Option.some.inj e2) (List.all_eq_true.mp c2 d (List.mem_of_getElem? h))
end
/-! ### a def of the text by its place -/
def fdAt (K : PySem.W.Frag) (p : Str × Option Str) : FuncData := match K.lookup (He.fAd K p) with
  | some ⟨_, _, .func fd, _⟩ => fd
  | _ => PySem.W.fnOf "" "" ⟨[], [], none, [], [], none, []⟩ [] ⟨.function, [], false, false, []⟩ .none .none .none .none none .none .none
structure DefAt (K : PySem.W.Frag) (p : Str × Option Str) (x qual : Str) (st : Stmt) (ps : List Str) : Prop where
  F : FunD K x qual (defArgs st) (defBody st) (defScope st) [] [] (He.fAd K p) (fdAt K p)
  b : Binds K (fdAt K p) ps []
abbrev ddOf (p : Str × Option Str) (x qual : Str) (st : Stmt) : He.DefD := { at_ := p, name := x, qual := qual, params := defArgs st, body := defBody st, scope := defScope st }
theorem defAt_mk {ps' : List Pd} {fn : List He.DefD} {K : PySem.W.Frag} {p : Str × Option Str} {x qual : Str} {st : Stmt} {ps : List Str} (c : SaysP ps' fn K) (i : Nat) (h : fn[i]? = some (ddOf p x qual st))
    (hb : ∀ (kV doc pm : Value) (an : Option Addr) (cdv ct : Value) (us : List Value), us.length = ps.length → bindArgs (PySem.W.fnOf x qual (defArgs st) (defBody st) (defScope st) .none kV doc pm an cdv ct) ⟨us, []⟩ = pure (ps.zip us)) : DefAt K p x qual st ps := by
  obtain ⟨fd, F⟩ := c.def_ i h
  have F' : FunD K x qual (defArgs st) (defBody st) (defScope st) [] [] (He.fAd K p) fd := F
  have e : fdAt K p = fd := by
    obtain ⟨oc, od, dV, kV, doc, pm, an, cdv, ct, osl, rfl, lk, _⟩ := F'.ex
    unfold fdAt
    rw [lk] <;> rfl
  have b : Binds K fd ps [] := F'.bindsN hb
  rw [← e] at F' b
  exact ⟨F', b⟩
/-! ### an own exception class -/
structure ExcAt (K : PySem.W.Frag) (mg : Str → Option Value) (x : Str) : Prop where
  g : mg x = some (.ref (He.ga K x))
  ex : PySem.W.excIn K (He.ga K x) He.veBase "ValueError.__new__" = true
  kp : PySem.W.keepIn K (.ref (He.ga K x)) = true
  sb : PySem.W.subIn K (.ref (He.ga K x)) (.type "BaseException") = some true
  ty : PySem.W.typeIn K (.ref (He.ga K x)) = some (.type "type")
theorem excAt_mk {K : PySem.W.Frag} {h : Heap} {mg : Str → Option Value} {x : Str} (X : K.In h) (G : h.Ns mainGlobals mg) (c1 : (He.Fa.glo x).ok K = true) (c2 : (He.Fa.exc x).ok K = true) : ExcAt K mg x := by
  obtain ⟨a, b, c, d⟩ := He.exc_ok c2
  exact ⟨He.glo_ok X G c1, a, b, c, d⟩

/-! ### readings, step by step -/
section
variable {σ : L2.St} {H : Hp} {D : Ends} {t u : TS} {te ta tb tc : TE} {v x y : V} {Q : VK} {c : TT} {g : TG} {i : Nat} {K : PySem.W.Frag}
theorem g_seq (h : t { D with nx := u D } σ H) : tSeq t u D σ H := h
theorem g_asg (h : te σ H fun x H1 => g x σ H1 D.nx) : tAsg te g D σ H := h
theorem g_ret (h : te σ H D.rt) : tRet te D σ H := h
theorem g_drop (h : te σ H fun _ H1 => D.nx σ H1) : tDrop te D σ H := h
theorem g_ifs (h : c σ H fun b H1 => if b = true then t D σ H1 else u D σ H1) : tIfS c t u D σ H := h
theorem g_next (h : D.nx σ H) : tNext D σ H := h
theorem g_brk (h : D.bk σ H) : tBreak D σ H := h
theorem g_cont (h : D.ct σ H) : tCont D σ H := h
theorem g_name {Qs : L2.St → Hp → Prop} {σ' : L2.St} (e : σ.set i (some v) = σ') (h : Qs σ' H) : gName i v σ H Qs := by
  show Qs (σ.set i (some v)) H
  rw [e]
  exact h
theorem g_var (e : σ[i]? = some (some v)) (h : Q v H) : tVar i σ H Q := ⟨v, e, h⟩
theorem g_c (h : Q v H) : tC v σ H Q := h
theorem g_op {r : R2} (h : ta σ H fun x H1 => tb σ H1 fun y H2 => r x y H2 Q) : tOp r ta tb σ H Q := h
theorem g_un {r : V → Hp → VK → Prop} (h : ta σ H fun x H1 => r x H1 Q) : tUn r ta σ H Q := h
theorem g_I0 {f : Int → Int → V} {a b : Int} (h : Q (f a b) H) : rI0 f (.int a) (.int b) H Q := ⟨a, b, rfl, rfl, h⟩
theorem g_I {C : Int → Int → Prop} {f : Int → Int → V} {a b : Int} (hc : C a b) (h : Q (f a b) H) : rI C f (.int a) (.int b) H Q := ⟨a, b, rfl, rfl, hc, h⟩
theorem g_U {f : Int → V} {a : Int} (h : Q (f a) H) : rU f (.int a) H Q := ⟨a, rfl, h⟩
theorem g_eq (hs : scal x y = true) (h : Q (.bl (decide (x = y))) H) : rEq x y H Q := ⟨hs, h⟩
theorem g_ne (hs : scal x y = true) (h : Q (.bl (!decide (x = y))) H) : rNe x y H Q := ⟨hs, h⟩
theorem g_eqI {a b : Int} (h : Q (.bl (decide (a = b))) H) : rEq (.int a) (.int b) H Q := ⟨rfl, by
  have e : decide (V.int a = V.int b) = decide (a = b) := by
    by_cases q : a = b
    · subst q; simp
    · rw [decide_eq_false q, decide_eq_false (fun z => q (V.int.inj z))]
  rw [e]; exact h⟩
theorem g_neI {a b : Int} (h : Q (.bl (!decide (a = b))) H) : rNe (.int a) (.int b) H Q := ⟨rfl, by
  have e : decide (V.int a = V.int b) = decide (a = b) := by
    by_cases q : a = b
    · subst q; simp
    · rw [decide_eq_false q, decide_eq_false (fun z => q (V.int.inj z))]
  rw [e]; exact h⟩
theorem g_bl {b : Bool} {Qb : Bool → Hp → Prop} (h : Qb b H) : ∃ k, V.bl b = V.bl k ∧ Qb k H := ⟨b, rfl, h⟩
theorem g_test {Qb : Bool → Hp → Prop} (h : te σ H fun x H' => ∃ k, x = .bl k ∧ Qb k H') : tTest te σ H Qb := h
theorem g_B {Qb : Bool → Hp → Prop} (h : te σ H fun x H' => ∃ k, x = .bl k ∧ Qb k H') : tB te σ H Qb := h
theorem g_and {tA tB' : TT} {Qb : Bool → Hp → Prop} (h : tA σ H fun c H1 => if c = true then tB' σ H1 Qb else Qb false H1) : tAnd tA tB' σ H Qb := h
theorem g_or {tA tB' : TT} {Qb : Bool → Hp → Prop} (h : tA σ H fun c H1 => if c = true then Qb true H1 else tB' σ H1 Qb) : tOr tA tB' σ H Qb := h
theorem g_not {tA : TT} {Qb : Bool → Hp → Prop} (h : tA σ H fun c H1 => Qb (!c) H1) : tNot tA σ H Qb := h
theorem g_andV (h : ta σ H fun x H1 => ∃ c, x = .bl c ∧ if c = true then tb σ H1 Q else Q (.bl false) H1) : tAndV ta tb σ H Q := h
theorem g_orV (h : ta σ H fun x H1 => ∃ c, x = .bl c ∧ if c = true then Q (.bl true) H1 else tb σ H1 Q) : tOrV ta tb σ H Q := h
theorem g_notV (h : ta σ H fun x H1 => ∃ c, x = .bl c ∧ Q (.bl (!c)) H1) : tNotV ta σ H Q := h
theorem g_blV {b : Bool} {A : Bool → Prop} (h : A b) : ∃ k, V.bl b = V.bl k ∧ A k := ⟨b, rfl, h⟩
theorem g_ifE {t : TT} (h : t σ H fun c H1 => if c = true then ta σ H1 Q else tb σ H1 Q) : tIf t ta tb σ H Q := h
theorem g_lst {t : TA} (h : t σ H fun xs H1 => xs.length ≤ sizeLine ∧ ∀ p, H1 p = none → Q (.ref p) (upd H1 p (.lst xs))) : tLst t σ H Q := h
theorem g_tup {t : TA} (h : t σ H fun xs H1 => xs.length ≤ sizeLine ∧ ∀ p, H1 p = none → Q (.ref p) (upd H1 p (.tup xs))) : tTup t σ H Q := h
theorem g_cons {tr : TA} {Qs : List V → Hp → Prop} (h : ta σ H fun x H1 => tr σ H1 fun xs H2 => Qs (x :: xs) H2) : tCons ta tr σ H Qs := h
theorem g_nil {Qs : List V → Hp → Prop} (h : Qs [] H) : tNil σ H Qs := h
theorem g_call {sp : Sp} {dvs : List V} {E : XK} {t : TA} (h : t σ H fun vs H1 => sp (vs ++ dvs) H1 Q E) : tCall sp dvs E t σ H Q := h
theorem g_callS {sp : Sp} {E : L2.St → XK} {t : TA} (h : t σ H fun vs H1 => sp vs H1 Q (E σ)) : tCallS sp E t σ H Q := h
theorem g_CB {r : List V → Hp → VK → Prop} {t : TA} (h : t σ H fun vs H1 => r vs H1 Q) : tCB r t σ H Q := h
theorem g_ixL {p : Addr} {xs : List V} {k : Int} (hs : SqL K H p xs) (ha : atI xs k = some v) (h : Q v H) : rIxL K (.ref p) (.int k) H Q := ⟨p, xs, k, v, rfl, rfl, hs, ha, h⟩
theorem g_ixT {p : Addr} {xs : List V} {k : Int} (hs : SqT K H p xs) (ha : atI xs k = some v) (h : Q v H) : rIxT K (.ref p) (.int k) H Q := ⟨p, xs, k, v, rfl, rfl, hs, ha, h⟩
theorem g_chain {r r' : R2} (h : ta σ H fun x H1 => tb σ H1 fun y H2 => r x y H2 fun z H3 => ∃ k, z = .bl k ∧ (if k = true then tc σ H3 fun w' H4 => r' y w' H4 Q else Q (.bl false) H3)) : tChain r r' ta tb tc σ H Q := h
theorem g_fld {f : Str} (h : ta σ H fun x H1 => ∃ a C dx fs v, x = .ref a ∧ H1 a = some (.ins C dx fs) ∧ Cls K C ∧ NoAttr K C f ∧ fs.lookup f = some v ∧ Q v H1) : tFld K ta f σ H Q := h
theorem g_iteD {p : Prop} [Decidable p] {A B : Prop} (h1 : p → A) (h2 : ¬ p → B) : if decide p = true then A else B := by
  by_cases q : p
  · rw [decide_eq_true q, if_pos rfl]; exact h1 q
  · rw [decide_eq_false q, if_neg Bool.false_ne_true]; exact h2 q
theorem g_iteN {p : Prop} [Decidable p] {A B : Prop} (h1 : ¬ p → A) (h2 : p → B) : if (!decide p) = true then A else B := by
  by_cases q : p
  · rw [decide_eq_true q]; exact iteF (h2 q)
  · rw [decide_eq_false q]; exact iteT (h1 q)
theorem g_iteB {b : Bool} {A B : Prop} (h1 : b = true → A) (h2 : b = false → B) : if b = true then A else B := by
  cases b with
  | true => exact iteT (h1 rfl)
  | false => exact iteF (h2 rfl)
end
theorem sz_of {n : Nat} (h : n ≤ 100000) : n ≤ sizeLine := Nat.le_trans h (by decide)
theorem sz_lt {n : Nat} (h : n < 100000) : n < sizeLine := Nat.lt_of_lt_of_le h (by decide)
end Cor

/-! ## CorB -/
/-! ### readings by name -/
namespace Cor
open PySem PySem.Spec PyProof.Rows L2
abbrev rAddI : R2 := rI0 fun i j => .int (i + j)
abbrev rSubI : R2 := rI0 fun i j => .int (i - j)
abbrev rMulI : R2 := rI CMul fun i j => .int (i * j)
abbrev rModI : R2 := rI (fun _ j => 0 < j) fun i j => .int (i % j)
abbrev rDivI : R2 := rI CDiv fun i j => .int (i / j)
abbrev rPowI : R2 := rI CPow fun i j => .int (i ^ j.toNat)
abbrev rLtI : R2 := rI0 fun i j => .bl (decide (i < j))
abbrev rLeI : R2 := rI0 fun i j => .bl (decide (i ≤ j))
abbrev rGtI : R2 := rI0 fun i j => .bl (decide (j < i))
abbrev rGeI : R2 := rI0 fun i j => .bl (decide (j ≤ i))
abbrev rNegI : V → Hp → VK → Prop := rU fun i => .int (-i)
def rIsN : R2 := fun x y H Q => y = .non ∧ Q (.bl (decide (x = .non))) H
def rNotN : R2 := fun x y H Q => y = .non ∧ Q (.bl (!decide (x = .non))) H
def rAddS : R2 := fun x y H Q => ∃ i j, x = .str i ∧ y = .str j ∧ i.length + j.length ≤ sizeLine ∧ Q (.str (i ++ j)) H
def rLenL (K : PySem.W.Frag) : List V → Hp → VK → Prop := fun xs H Q => ∃ p ys, xs = [.ref p] ∧ (SqL K H p ys ∨ SqT K H p ys) ∧ Q (.int ys.length) H
def rLenT : List V → Hp → VK → Prop := fun xs H Q => ∃ z, xs = [.str z] ∧ z.length ≤ sizeLine ∧ Q (.int z.length) H
def rLenD : List V → Hp → VK → Prop := fun xs H Q => ∃ a kvs, xs = [V.ref a] ∧ H a = some (.dK kvs) ∧ Q (.int kvs.length) H
def rListL (K : PySem.W.Frag) : List V → Hp → VK → Prop := fun xs H Q => ∃ p ys, xs = [.ref p] ∧ (SqL K H p ys ∨ SqT K H p ys) ∧ ∀ l, H l = none → Q (.ref l) (upd H l (.lst ys))
def rDictD : List V → Hp → VK → Prop := fun xs H Q => ∃ (a : Addr) (kvs : List (Key × V)), xs = [.ref a] ∧ Rd H a (.dK kvs) ∧ ∀ p, H p = none → Q (.ref p) (upd H p (.dK kvs))
def rStrI : List V → Hp → VK → Prop := fun xs H Q => ∃ i, xs = [.int i] ∧ i.natAbs.log2 < 1920 ∧ Q (.str (toString i)) H
def rIntI : List V → Hp → VK → Prop := fun xs H Q => (∃ i, xs = [.int i] ∧ Q (.int i) H) ∨ ∃ k, xs = [.bl k] ∧ Q (.int (if k then 1 else 0)) H
def rMin2 : List V → Hp → VK → Prop := fun xs H Q => ∃ i j, xs = [.int i, .int j] ∧ Q (.int (if j < i then j else i)) H
def rMax2 : List V → Hp → VK → Prop := fun xs H Q => ∃ i j, xs = [.int i, .int j] ∧ Q (.int (if j > i then j else i)) H
def tRaise (E : XK) (C : Addr) : TS := fun _ _ H => E (.ref C) none H
/-- one except clause, with a name or without; several -/
def tTryO (K : PySem.W.Frag) (c : Value) (tb : WX → TS) (ts : Addr → Value → Option Addr → TS) : TS := fun D σ H => tb (wOnly K c ts (fun _ _ _ _ => False) D) D σ H
def tTryM (K : PySem.W.Frag) (l : List (Value × (Addr → Value → Option Addr → TS))) (tb : WX → TS) : TS := fun D σ H => tb (wMany K (fun _ _ _ _ => False) D l) D σ H
/-! ### facts of classes -/
def Exm (K : PySem.W.Frag) (x y : Str) (b : Bool) : Prop := PySem.W.exmOne K (.ref (He.ga K x)) (.ref (He.ga K y)) = some b
def exmB (x y : Str) (b : Bool) : Pd := fun K => decide (PySem.W.exmOne K (.ref (He.ga K x)) (.ref (He.ga K y)) = some b)
theorem exmB_ok {K : PySem.W.Frag} {x y : Str} {b : Bool} (h : exmB x y b K = true) : Exm K x y b := of_decide_eq_true (p := PySem.W.exmOne K (.ref (He.ga K x)) (.ref (He.ga K y)) = some b) h
def Kit (K : PySem.W.Frag) (x y : Str) (b : Bool) : Prop := PySem.W.kitOne K (.ref (He.ga K x)) (.ref (He.ga K y)) = some b
def kiB (x y : Str) (b : Bool) : Pd := fun K => decide (PySem.W.kitOne K (.ref (He.ga K x)) (.ref (He.ga K y)) = some b)
theorem kiB_ok {K : PySem.W.Frag} {x y : Str} {b : Bool} (h : kiB x y b K = true) : Kit K x y b := of_decide_eq_true (p := PySem.W.kitOne K (.ref (He.ga K x)) (.ref (He.ga K y)) = some b) h
def KitT (K : PySem.W.Frag) (x : Str) (y : String) (b : Bool) : Prop := PySem.W.kitOne K (.ref (He.ga K x)) (.type y) = some b
def kiTB (x : Str) (y : String) (b : Bool) : Pd := fun K => decide (PySem.W.kitOne K (.ref (He.ga K x)) (.type y) = some b)
theorem kiTB_ok {K : PySem.W.Frag} {x : Str} {y : String} {b : Bool} (h : kiTB x y b K = true) : KitT K x y b := of_decide_eq_true (p := PySem.W.kitOne K (.ref (He.ga K x)) (.type y) = some b) h
def excCB (x : Str) : Pd := fun K => He.eqO (PySem.W.findIn K (.ref (He.ga K x)) "__getattribute__") (some (some (.builtin "BaseException.__getattribute__"))) &&
  (He.eqO (PySem.W.findIn K (.ref (He.ga K x)) "__getattr__") (some none) && (decide (PySem.W.subIn K (.ref (He.ga K x)) (.type "BaseException") = some true) && (PySem.W.hasDictIn K (He.ga K x) &&
  (He.eqO (PySem.W.findIn K (.ref (He.ga K x)) "__class__") (some (some (.builtin "object.__class__"))) && (He.eqO (PySem.W.specialIn K (.builtin "object.__class__") "__get__") (some (some (.builtin "getset_descriptor.__get__"))) &&
  (decide (PySem.W.takesIn K (.builtin "object.__class__") = some true) && decide (PySem.W.mroIn K (He.ga K x) (.type "object") = some true)))))))
theorem excCB_ok {K : PySem.W.Frag} {x : Str} (h : excCB x K = true) : ExcC K (He.ga K x) := by
  obtain ⟨h1, h⟩ := He.ba h
  obtain ⟨h2, h⟩ := He.ba h
  obtain ⟨h3, h⟩ := He.ba h
  obtain ⟨h4, h⟩ := He.ba h
  obtain ⟨h5, h⟩ := He.ba h
  obtain ⟨h6, h⟩ := He.ba h
  obtain ⟨h7, h8⟩ := He.ba h
  exact ⟨He.eqO_ok h1, He.eqO_ok h2, of_decide_eq_true h3, h4, He.eqO_ok h5, He.eqO_ok h6, of_decide_eq_true h7, of_decide_eq_true h8⟩
/-! ### isinstance(e, C), e the exception that a suite holds, whatever its class -/
def rIsX (K : PySem.W.Frag) (cls : Value) (d : Option Addr) (a : Addr) : List V → Hp → VK → Prop := fun xs H Q => ∃ D, cls = .ref D ∧ d = none ∧ ExcC K D ∧ rIsE K D a xs H Q
theorem call_isX {X : Cx} {a : Addr} {oe : Obj} {cls : Value} {d : Option Addr} {pn : List (Addr × Obj)} (hz : Zc cls d oe) (hf : ∃ vs, oe.data = .fields vs) : CallR (X.suite a ((a, oe) :: pn)) (.builtin "isinstance") (rIsX X.K cls d a) := by
  intro pins s σ H xs us Q I r h
  obtain ⟨D, rfl, rfl, C, q⟩ := h
  exact call_isE C hz hf pins s σ H xs us Q I r q
/-! ### a method within a try's body -/
def tMethT (C : Addr) (m : Str) (sp : Sp) (E : L2.St → XK) (ta : TE) (t : TA) : TE := fun σ H Q => ta σ H fun x H1 => ∃ a dx fs, x = .ref a ∧ H1 a = some (.ins C dx fs) ∧ fs.lookup m = none ∧
  t σ H1 fun vs H2 => sp (x :: vs) H2 Q (E σ)
section
variable {X : Cx} {CX : CXT} {k : Nat} {f C : Addr} {fd : FuncData} {ps : List Str} {sp : Sp} {E : L2.St → XK} {x m : Str} {p pos apos : Pos} {e o : Expr} {es : List Expr} {ta : TE} {t : TA}
theorem pe_methT {pl : Sem Bool} (he : PE X o ta) (c : Cls X.K C) (hm : Meth X.K C m f) (F : FnOk X.prog X.w X.K X.mg X.base CX k f fd ps sp) (hr : Room k X.A) (hb : Binds X.K fd ps []) (hx : ∀ σ, PassesAt CX X σ (E σ)) (ha : PA X (e :: es) t)
    (hst : starEach (e :: es) X.env = (false, eval e X.env) :: starEach es X.env := by rfl) (hpl : (backTo pos (starEach es X.env)).any (·.1) = false := by rfl)
    (ht : eval (.Call (.Attribute o m apos) (e :: es) [] pos) X.env = (do
      let ov ← eval o X.env
      standAt apos.atName
      let (f, first) ← holding [ov] (getMethod ov m pl)
      callWith pos f first (backTo pos (starEach (e :: es) X.env)) (backToKw pos (keywordEach [] X.env))) := by rfl) :
    PE X (.Call (.Attribute o m apos) (e :: es) [] pos) (tMethT C m sp E ta t) := by
  refine ⟨fun pins s σ H Q I h => ?_⟩
  refine PySem.W.methodCall_KW (pl := pl) (thn (he.run pins s σ H _ I h) fun u s1 ⟨x, H1, I1, rx, a, dx, fs, ex, ea, l, q⟩ => ?_) ht
  subst ex
  obtain rfl : u = Value.ref a := rx
  refine getmeth_ok I1 ea c hm l ?_
  refine PySem.W.callWith_K (first := [.ref a]) (h₀ := X.base) I.ok.mod.kin hm.kp (thn (ha.run pos pins s1 σ H1 _ I1 q) fun us s2 ⟨vs, H2, I2, r, q2⟩ => ⟨I2.kIn, ?_⟩) hst hpl
  exact run_fnS (us := .ref a :: us) (vs := .ref a :: vs) F hr hb (hx σ) I2 (.cons rfl r) q2
theorem pe_methT0 {pl : Sem Bool} (he : PE X o ta) (c : Cls X.K C) (hm : Meth X.K C m f) (F : FnOk X.prog X.w X.K X.mg X.base CX k f fd ps sp) (hr : Room k X.A) (hb : Binds X.K fd ps []) (hx : ∀ σ, PassesAt CX X σ (E σ))
    (ht : eval (.Call (.Attribute o m apos) [] [] pos) X.env = (do
      let ov ← eval o X.env
      standAt apos.atName
      let (f, first) ← holding [ov] (getMethod ov m pl)
      callWith pos f first (backTo pos (starEach [] X.env)) (backToKw pos (keywordEach [] X.env))) := by rfl) :
    PE X (.Call (.Attribute o m apos) [] [] pos) (tMethT C m sp E ta tNil) := by
  refine ⟨fun pins s σ H Q I h => ?_⟩
  refine PySem.W.methodCall_KW (pl := pl) (thn (he.run pins s σ H _ I h) fun u s1 ⟨x, H1, I1, rx, a, dx, fs, ex, ea, l, q⟩ => ?_) ht
  subst ex
  obtain rfl : u = Value.ref a := rx
  refine getmeth_ok I1 ea c hm l ?_
  exact PySem.W.callWith_K0 (first := [.ref a]) I1.kIn hm.kp (run_fnS (us := [.ref a]) (vs := [.ref a]) F hr hb (hx σ) I1 (.cons rfl .nil) q)
end
/-! ### small readings -/
section
variable {σ : L2.St} {H : Hp} {Q : VK} {K : PySem.W.Frag} {x : V}
theorem g_isN (h : Q (.bl (decide (x = .non))) H) : rIsN x .non H Q := ⟨rfl, h⟩
theorem g_notN (h : Q (.bl (!decide (x = .non))) H) : rNotN x .non H Q := ⟨rfl, h⟩
theorem g_lenL {p : Addr} {ys : List V} (hs : SqL K H p ys) (h : Q (.int ys.length) H) : rLenL K [.ref p] H Q := ⟨p, ys, rfl, .inl hs, h⟩
theorem g_listL {p : Addr} {ys : List V} (hs : SqL K H p ys) (h : ∀ l, H l = none → Q (.ref l) (upd H l (.lst ys))) : rListL K [.ref p] H Q := ⟨p, ys, rfl, .inl hs, h⟩
/-- isinstance of flat values and of objects -/
theorem g_isi {u t : String} {b : Bool} (ht : TyX K H x (.type t)) (hk : L2.kitB t u = some b) (h : Q (.bl b) H) : rIsi K [x, .ty u] H Q := ⟨x, .ty u, .type t, .type u, b, rfl, .ty u, ht, kit_ty hk, h⟩
end
end Cor

/-! ## CorC -/
/-! ### loops by what is left -/
namespace Cor
open PySem PySem.Spec PyProof.Rows L2
section
variable {K : PySem.W.Frag} {σ : L2.St} {H : Hp} {D : Ends} {g : TG} {tb : TS} {wi : TI} {tl : TE} {ta : TA} {Q : VK}
/-- the items r of the list at a (all of them: all) are still to be walked -/
def forRun (K : PySem.W.Frag) (a : Addr) (all : List V) (g : TG) (tb : TS) (D : Ends) : List V → L2.St → Hp → Prop
  | [] => fun σ H => SqL K H a all ∧ D.nx σ H
  | x :: r => fun σ H => SqL K H a all ∧ g x σ H fun σ2 H2 => tb { D with nx := forRun K a all g tb D r, ct := forRun K a all g tb D r, bk := D.nx } σ2 H2
theorem forRun.sq {a : Addr} {all r : List V} (h : forRun K a all g tb D r σ H) : SqL K H a all := by
  cases r with
  | nil => exact h.1
  | cons x r => exact h.1
theorem drop_cons {α : Type} {xs : List α} {i : Nat} {x : α} (h : xs[i]? = some x) : xs.drop i = x :: xs.drop (i + 1) := by
  obtain ⟨hi, e⟩ := List.getElem?_eq_some_iff.mp h
  rw [← e]
  exact List.drop_eq_getElem_cons hi
theorem for_go {a : Addr} {xs : List V} (h : forRun K a xs g tb D xs σ H) : ∃ a', V.ref a = V.ref a' ∧ (∃ ys, SqL K H a' ys) ∧ ∃ W : Nat → Nat → L2.St → Hp → Prop, (∃ m, W 0 m σ H) ∧ ∀ i m σ H, W i m σ H →
    ((Itl K a').stop i H ∧ D.nx σ H) ∨ ((Itl K a').go i H ∧ ∃ N : L2.St → Hp → Prop, (∀ σ' H', N σ' H' → ∃ m', m' < m ∧ W (i + 1) m' σ' H') ∧ ∀ x H', (Itl K a').yld i H x H' → g x σ H' fun σ2 H2 => tb { D with nx := N, ct := N, bk := D.nx } σ2 H2) := by
  refine ⟨a, rfl, ⟨xs, h.sq⟩, for_list (K := K) (a := a) (xs := xs) (fun i σ H => forRun K a xs g tb D (xs.drop i) σ H) h (fun i σ H hi p => p.sq) (fun i x σ H hx p => ?_) (fun σ H p => ?_)⟩
  · rw [drop_cons hx] at p
    exact p.2
  · rw [List.drop_length] at p
    exact p.2
theorem g_forL (h : tl σ H fun x H1 => ∃ a, x = .ref a ∧ (∃ xs, SqL K H1 a xs) ∧ ∃ W : Nat → Nat → L2.St → Hp → Prop, (∃ m, W 0 m σ H1) ∧ ∀ i m σ H, W i m σ H →
    ((Itl K a).stop i H ∧ D.nx σ H) ∨ ((Itl K a).go i H ∧ ∃ N : L2.St → Hp → Prop, (∀ σ' H', N σ' H' → ∃ m', m' < m ∧ W (i + 1) m' σ' H') ∧ ∀ x H', (Itl K a).yld i H x H' → g x σ H' fun σ2 H2 => tb { D with nx := N, ct := N, bk := D.nx } σ2 H2)) : tFor (iList K tl) g tb D σ H := h
/-- n turns from k on -/
def forRng (g : TG) (tb : TS) (D : Ends) : Nat → Int → L2.St → Hp → Prop
  | 0, _ => fun σ H => D.nx σ H
  | n + 1, k => fun σ H => g (.int k) σ H fun σ2 H2 => tb { D with nx := forRng g tb D n (k + 1), ct := forRng g tb D n (k + 1), bk := D.nx } σ2 H2
theorem rng_go {lo : Int} {n : Nat} (h : forRng g tb D n lo σ H) : ∃ W : Nat → Nat → L2.St → Hp → Prop, (∃ m, W 0 m σ H) ∧ ∀ i m σ H, W i m σ H →
    ((Itr lo n).stop i H ∧ D.nx σ H) ∨ ((Itr lo n).go i H ∧ ∃ N : L2.St → Hp → Prop, (∀ σ' H', N σ' H' → ∃ m', m' < m ∧ W (i + 1) m' σ' H') ∧ ∀ x H', (Itr lo n).yld i H x H' → g x σ H' fun σ2 H2 => tb { D with nx := N, ct := N, bk := D.nx } σ2 H2) := by
  refine for_range (fun i σ H => i ≤ n ∧ forRng g tb D (n - i) (lo + i) σ H) ⟨Nat.zero_le _, by simpa using h⟩ (fun i σ H hi ⟨_, p⟩ => ?_) (fun σ H ⟨_, p⟩ => ?_)
  · obtain ⟨m, hm⟩ : ∃ m, n - i = m + 1 := ⟨n - i - 1, by omega⟩
    rw [hm] at p
    have e1 : n - (i + 1) = m := by omega
    have e2 : lo + ((i + 1 : Nat) : Int) = lo + (i : Int) + 1 := by omega
    have e3 : (fun σ H => i + 1 ≤ n ∧ forRng g tb D (n - (i + 1)) (lo + ((i + 1 : Nat) : Int)) σ H) = forRng g tb D m (lo + (i : Int) + 1) := by
      funext σ' H'
      rw [e1, e2]
      exact propext ⟨fun z => z.2, fun z => ⟨by omega, z⟩⟩
    show g (.int (lo + (i : Int))) σ H fun σ2 H2 => tb { D with nx := fun σ H => i + 1 ≤ n ∧ forRng g tb D (n - (i + 1)) (lo + ((i + 1 : Nat) : Int)) σ H, ct := fun σ H => i + 1 ≤ n ∧ forRng g tb D (n - (i + 1)) (lo + ((i + 1 : Nat) : Int)) σ H, bk := D.nx } σ2 H2
    rw [e3]
    exact p
  · rw [Nat.sub_self] at p
    exact p
theorem g_rng1 (h : ta σ H fun vs H1 => ∃ j : Int, vs = [.int j] ∧ -(2 ^ 62) ≤ j ∧ j < 2 ^ 62 ∧ forRng g tb D j.toNat 0 σ H1) (mono : ∀ Q Q' : List V → Hp → Prop, (∀ vs H, Q vs H → Q' vs H) → ta σ H Q → ta σ H Q') : tFor (iRng1 ta) g tb D σ H :=
  mono _ _ (fun vs H1 ⟨j, e, b1, b2, h⟩ => ⟨j, e, b1, b2, rng_go h⟩) h
/-- range(j), j given -/
theorem rng1_of {j : Int} (b1 : -(2 ^ 62) ≤ j) (b2 : j < 2 ^ 62) (h : forRng g tb D j.toNat 0 σ H) : ∃ j' : Int, [V.int j] = [.int j'] ∧ -(2 ^ 62) ≤ j' ∧ j' < 2 ^ 62 ∧ ∃ W : Nat → Nat → L2.St → Hp → Prop, (∃ m, W 0 m σ H) ∧ ∀ i m σ H, W i m σ H →
    ((Itr 0 j'.toNat).stop i H ∧ D.nx σ H) ∨ ((Itr 0 j'.toNat).go i H ∧ ∃ N : L2.St → Hp → Prop, (∀ σ' H', N σ' H' → ∃ m', m' < m ∧ W (i + 1) m' σ' H') ∧ ∀ x H', (Itr 0 j'.toNat).yld i H x H' → g x σ H' fun σ2 H2 => tb { D with nx := N, ct := N, bk := D.nx } σ2 H2) :=
  ⟨j, rfl, b1, b2, rng_go h⟩
theorem g_forR1 (h : ta σ H fun vs H1 => ∃ j : Int, vs = [.int j] ∧ -(2 ^ 62) ≤ j ∧ j < 2 ^ 62 ∧ ∃ W : Nat → Nat → L2.St → Hp → Prop, (∃ m, W 0 m σ H1) ∧ ∀ i m σ H, W i m σ H →
    ((Itr 0 j.toNat).stop i H ∧ D.nx σ H) ∨ ((Itr 0 j.toNat).go i H ∧ ∃ N : L2.St → Hp → Prop, (∀ σ' H', N σ' H' → ∃ m', m' < m ∧ W (i + 1) m' σ' H') ∧ ∀ x H', (Itr 0 j.toNat).yld i H x H' → g x σ H' fun σ2 H2 => tb { D with nx := N, ct := N, bk := D.nx } σ2 H2)) : tFor (iRng1 ta) g tb D σ H := h
/-! ### list comprehensions by what is left -/
section
variable {tt : TT} {te : TE} {vs : List Nat}
/-- an end, held unreduced -/
def ap (Q : VK) (v : V) (H : Hp) : Prop := Q v H
/-- the items r of the list at a (all of them: all) are still to be walked; the new list stands at L -/
def lcRun (K : PySem.W.Frag) (a : Addr) (all : List V) (g : TG) (tt : TT) (te : TE) (vs : List Nat) (σ : L2.St) (L : Addr) (Q : VK) : List V → Hp → Prop
  | [] => fun H => SqL K H a all ∧ Q (.ref L) H
  | x :: r => fun H => SqL K H a all ∧ g x (wipe σ vs) H fun σ2 H2 => wipe σ2 vs = wipe σ vs ∧ tt σ2 H2 fun b H3 =>
      if b = true then te σ2 H3 fun y H4 => ∃ acc, H4 L = some (.lst acc) ∧ acc.length < sizeLine ∧ lcRun K a all g tt te vs σ L Q r (upd H4 L (.lst (acc ++ [y]))) else lcRun K a all g tt te vs σ L Q r H3
theorem lcRun.sq {a : Addr} {all r : List V} {L : Addr} (h : lcRun K a all g tt te vs σ L Q r H) : SqL K H a all := by
  cases r with
  | nil => exact h.1
  | cons x r => exact h.1
theorem lc_go {a : Addr} {xs : List V} (hS : SqL K H a xs) (h : ∀ L, H L = none → lcRun K a xs g tt te vs σ L Q xs (upd H L (.lst []))) : ∃ a', V.ref a = V.ref a' ∧ (∃ ys, SqL K H a' ys) ∧ ∀ L, H L = none → ∃ W : Nat → Nat → Hp → Prop, (∃ m, W 0 m (upd H L (.lst []))) ∧ ∀ i m H, W i m H →
    ((Itl K a').stop i H ∧ ap Q (.ref L) H) ∨ ((Itl K a').go i H ∧ ∃ Nx : Hp → Prop, (∀ H', Nx H' → ∃ m', m' < m ∧ W (i + 1) m' H') ∧ ∀ x H', (Itl K a').yld i H x H' → g x (wipe σ vs) H' fun σ2 H2 => wipe σ2 vs = wipe σ vs ∧ tt σ2 H2 fun b H3 =>
      if b = true then te σ2 H3 fun y H4 => ∃ acc, H4 L = some (.lst acc) ∧ acc.length < sizeLine ∧ Nx (upd H4 L (.lst (acc ++ [y]))) else Nx H3) := by
  refine ⟨a, rfl, ⟨xs, hS⟩, fun L hL => lc_list (K := K) (a := a) (xs := xs) (fun i H => lcRun K a xs g tt te vs σ L Q (xs.drop i) H) (h L hL) (fun i H hi p => p.sq) (fun i x H hx p => ?_) (fun H p => ?_)⟩
  · rw [drop_cons hx] at p
    exact p.2
  · rw [List.drop_length] at p
    exact p.2
theorem g_lcL (h : tl σ H fun x H1 => ∃ a, x = .ref a ∧ (∃ xs, SqL K H1 a xs) ∧ ∀ L, H1 L = none → ∃ W : Nat → Nat → Hp → Prop, (∃ m, W 0 m (upd H1 L (.lst []))) ∧ ∀ i m H, W i m H →
    ((Itl K a).stop i H ∧ ap Q (.ref L) H) ∨ ((Itl K a).go i H ∧ ∃ Nx : Hp → Prop, (∀ H', Nx H' → ∃ m', m' < m ∧ W (i + 1) m' H') ∧ ∀ x H', (Itl K a).yld i H x H' → g x (wipe σ vs) H' fun σ2 H2 => wipe σ2 vs = wipe σ vs ∧ tt σ2 H2 fun b H3 =>
      if b = true then te σ2 H3 fun y H4 => ∃ acc, H4 L = some (.lst acc) ∧ acc.length < sizeLine ∧ Nx (upd H4 L (.lst (acc ++ [y]))) else Nx H3)) : tLc (iList K tl) g tt te vs σ H Q := h
/-- n turns from k on -/
def lcRng (g : TG) (tt : TT) (te : TE) (vs : List Nat) (σ : L2.St) (L : Addr) (Q : VK) : Nat → Int → Hp → Prop
  | 0, _ => fun H => Q (.ref L) H
  | n + 1, k => fun H => g (.int k) (wipe σ vs) H fun σ2 H2 => wipe σ2 vs = wipe σ vs ∧ tt σ2 H2 fun b H3 =>
      if b = true then te σ2 H3 fun y H4 => ∃ acc, H4 L = some (.lst acc) ∧ acc.length < sizeLine ∧ lcRng g tt te vs σ L Q n (k + 1) (upd H4 L (.lst (acc ++ [y]))) else lcRng g tt te vs σ L Q n (k + 1) H3
theorem lcr_go {lo : Int} {n : Nat} {L : Addr} (h : lcRng g tt te vs σ L Q n lo (upd H L (.lst []))) : ∃ W : Nat → Nat → Hp → Prop, (∃ m, W 0 m (upd H L (.lst []))) ∧ ∀ i m H, W i m H →
    ((Itr lo n).stop i H ∧ ap Q (.ref L) H) ∨ ((Itr lo n).go i H ∧ ∃ Nx : Hp → Prop, (∀ H', Nx H' → ∃ m', m' < m ∧ W (i + 1) m' H') ∧ ∀ x H', (Itr lo n).yld i H x H' → g x (wipe σ vs) H' fun σ2 H2 => wipe σ2 vs = wipe σ vs ∧ tt σ2 H2 fun b H3 =>
      if b = true then te σ2 H3 fun y H4 => ∃ acc, H4 L = some (.lst acc) ∧ acc.length < sizeLine ∧ Nx (upd H4 L (.lst (acc ++ [y]))) else Nx H3) := by
  refine lc_range (fun i H => i ≤ n ∧ lcRng g tt te vs σ L Q (n - i) (lo + i) H) ⟨Nat.zero_le _, by simpa using h⟩ (fun i H hi ⟨_, p⟩ => ?_) (fun H ⟨_, p⟩ => ?_)
  · obtain ⟨m, hm⟩ : ∃ m, n - i = m + 1 := ⟨n - i - 1, by omega⟩
    rw [hm] at p
    have e1 : n - (i + 1) = m := by omega
    have e2 : lo + ((i + 1 : Nat) : Int) = lo + (i : Int) + 1 := by omega
    have e3 : ∀ H, (i + 1 ≤ n ∧ lcRng g tt te vs σ L Q (n - (i + 1)) (lo + ((i + 1 : Nat) : Int)) H) = lcRng g tt te vs σ L Q m (lo + (i : Int) + 1) H := by
      intro H'
      rw [e1, e2]
      exact propext ⟨fun z => z.2, fun z => ⟨by omega, z⟩⟩
    simp only [e3]
    exact p
  · rw [Nat.sub_self] at p
    exact p
theorem lcr1_of {j : Int} (b1 : -(2 ^ 62) ≤ j) (b2 : j < 2 ^ 62) (h : ∀ L, H L = none → lcRng g tt te vs σ L Q j.toNat 0 (upd H L (.lst []))) : ∃ j' : Int, [V.int j] = [.int j'] ∧ -(2 ^ 62) ≤ j' ∧ j' < 2 ^ 62 ∧ ∀ L, H L = none → ∃ W : Nat → Nat → Hp → Prop, (∃ m, W 0 m (upd H L (.lst []))) ∧ ∀ i m H, W i m H →
    ((Itr 0 j'.toNat).stop i H ∧ ap Q (.ref L) H) ∨ ((Itr 0 j'.toNat).go i H ∧ ∃ Nx : Hp → Prop, (∀ H', Nx H' → ∃ m', m' < m ∧ W (i + 1) m' H') ∧ ∀ x H', (Itr 0 j'.toNat).yld i H x H' → g x (wipe σ vs) H' fun σ2 H2 => wipe σ2 vs = wipe σ vs ∧ tt σ2 H2 fun b H3 =>
      if b = true then te σ2 H3 fun y H4 => ∃ acc, H4 L = some (.lst acc) ∧ acc.length < sizeLine ∧ Nx (upd H4 L (.lst (acc ++ [y]))) else Nx H3) :=
  ⟨j, rfl, b1, b2, fun L hL => lcr_go (h L hL)⟩
theorem g_lcR1 (h : ta σ H fun vs' H1 => ∃ j : Int, vs' = [.int j] ∧ -(2 ^ 62) ≤ j ∧ j < 2 ^ 62 ∧ ∀ L, H1 L = none → ∃ W : Nat → Nat → Hp → Prop, (∃ m, W 0 m (upd H1 L (.lst []))) ∧ ∀ i m H, W i m H →
    ((Itr 0 j.toNat).stop i H ∧ ap Q (.ref L) H) ∨ ((Itr 0 j.toNat).go i H ∧ ∃ Nx : Hp → Prop, (∀ H', Nx H' → ∃ m', m' < m ∧ W (i + 1) m' H') ∧ ∀ x H', (Itr 0 j.toNat).yld i H x H' → g x (wipe σ vs) H' fun σ2 H2 => wipe σ2 vs = wipe σ vs ∧ tt σ2 H2 fun b H3 =>
      if b = true then te σ2 H3 fun y H4 => ∃ acc, H4 L = some (.lst acc) ∧ acc.length < sizeLine ∧ Nx (upd H4 L (.lst (acc ++ [y]))) else Nx H3)) : tLc (iRng1 ta) g tt te vs σ H Q := h
theorem g_yes {Qb : Bool → Hp → Prop} (h : Qb true H) : tYes σ H Qb := h
end
end
end Cor
namespace Cor
open PySem PySem.Spec PyProof.Rows L2
section
variable {K : PySem.W.Frag} {σ : L2.St} {H : Hp} {D : Ends} {Q : VK} {ta tb td ty to te tv tx : TE} {t : TA}
theorem g_new {xs : List V} {A : Addr → Prop} (hl : Nat.ble xs.length 100000 = true) (h : ∀ p, H p = none → A p) : xs.length ≤ sizeLine ∧ ∀ p, H p = none → A p := ⟨sz_of (Nat.le_of_ble_eq_true hl), h⟩
theorem g_mod {a b : Int} (hb : 0 < b) (h : Q (.int (a % b)) H) : rModI (.int a) (.int b) H Q := ⟨a, b, rfl, rfl, hb, h⟩
theorem g_div {a b : Int} (hb : 0 < b) (hb2 : b < 1073741824) (h : Q (.int (a / b)) H) : rDivI (.int a) (.int b) H Q := ⟨a, b, rfl, rfl, ⟨hb, hb2⟩, h⟩
theorem g_mul {a b : Int} (hb : CMul a b) (h : Q (.int (a * b)) H) : rMulI (.int a) (.int b) H Q := ⟨a, b, rfl, rfl, hb, h⟩
theorem g_sub {v : V} {ti : TE} {t : TSet} {Qs : L2.St → Hp → Prop} (h : to σ H fun o H1 => ti σ H1 fun i H2 => t o i v H2 fun H3 => Qs σ H3) : gSub to ti t v σ H Qs := h
theorem g_bm {T : String} {r : V → List V → Hp → VK → Prop} (h : to σ H fun x H1 => tyV K T x H1 ∧ t σ H1 fun xs H2 => r x xs H2 Q) : tBM K T r to t σ H Q := h
theorem g_bm0 {T : String} {r : V → List V → Hp → VK → Prop} (h : to σ H fun x H1 => tyV K T x H1 ∧ r x [] H1 Q) : tBM0 K T r to σ H Q := h
theorem g_dget (h : td σ H fun x H1 => ty σ H1 fun y H2 => ∃ a v, x = .ref a ∧ DGet H2 a y (some v) ∧ Q v H2) : tDGet td ty σ H Q := h
theorem g_din (h : ty σ H fun y H1 => td σ H1 fun x H2 => ∃ a o, x = .ref a ∧ DGet H2 a y o ∧ Q (.bl o.isSome) H2) : tDIn ty td σ H Q := h
theorem g_dnotin (h : ty σ H fun y H1 => td σ H1 fun x H2 => ∃ a o, x = .ref a ∧ DGet H2 a y o ∧ Q (.bl (!o.isSome)) H2) : tDNotIn ty td σ H Q := h
theorem g_dput (h : tv σ H fun v H1 => td σ H1 fun x H2 => ty σ H2 fun y H3 => ∃ a H4, x = .ref a ∧ DPut H3 a y v H4 ∧ D.nx σ H4) : sDPut td ty tv D σ H := h
theorem g_sl {r : V → Option Int → Option Int → Hp → VK → Prop} {tl th : TO} (h : te σ H fun x H1 => tl σ H1 fun l H2 => th σ H2 fun u H3 => r x l u H3 Q) : tSl r te tl th σ H Q := h
theorem g_part {Qo : Option Int → Hp → Prop} (h : te σ H fun x H1 => ∃ i, x = .int i ∧ Qo (some i) H1) : tPart te σ H Qo := h
theorem g_nopart {Qo : Option Int → Hp → Prop} (h : Qo none H) : tNoPart σ H Qo := h
theorem g_meth {C : Addr} {m : Str} {sp : Sp} {dvs : List V} {E : XK} (h : ta σ H fun x H1 => ∃ a dx fs, x = .ref a ∧ H1 a = some (.ins C dx fs) ∧ fs.lookup m = none ∧ t σ H1 fun vs H2 => sp (x :: (vs ++ dvs)) H2 Q E) : tMeth C m sp dvs E ta t σ H Q := h
theorem g_methT {C : Addr} {m : Str} {sp : Sp} {E : L2.St → XK} (h : ta σ H fun x H1 => ∃ a dx fs, x = .ref a ∧ H1 a = some (.ins C dx fs) ∧ fs.lookup m = none ∧ t σ H1 fun vs H2 => sp (x :: vs) H2 Q (E σ)) : tMethT C m sp E ta t σ H Q := h
theorem g_sfld {f : Str} (h : tv σ H fun y H1 => ta σ H1 fun x H2 => ∃ a C dx fs, x = .ref a ∧ H2 a = some (.ins C dx fs) ∧ Cls K C ∧ NoAttr K C f ∧ fs.length < 1000 ∧ D.nx σ (upd H2 a (.ins C dx (putF f y fs)))) : sFld K ta tv f D σ H := h
/-- what an object is to its methods -/
theorem ty_list {p : Addr} {xs : List V} (h : SqL K H p xs) : tyV K "list" (.ref p) H := .inl ⟨rfl, _, h⟩
theorem g_append {l : Addr} {xs : List V} {y : V} (h1 : H l = some (.lst xs)) (h2 : xs.length < sizeLine) (h : Q .non (upd H l (.lst (xs ++ [y])))) : rAppend (.ref l) [y] H Q := ⟨l, xs, y, rfl, rfl, h1, h2, h⟩
theorem g_setL {p : Addr} {xs : List V} {k : Int} {j : Nat} {v : V} {Qs : Hp → Prop} (h1 : H p = some (.lst xs)) (h2 : ixN xs.length k = some j) (h : Qs (upd H p (.lst (xs.set j v)))) : rSetL (.ref p) (.int k) v H Qs := ⟨p, xs, k, j, rfl, rfl, h1, h2, h⟩
end
end Cor
namespace Cor
theorem iteNT {A B : Prop} (h : B) : if (!true) = true then A else B := by
  rw [if_neg (by decide)]
  exact h
theorem iteNF {A B : Prop} (h : A) : if (!false) = true then A else B := by
  rw [if_pos (by decide)]
  exact h
end Cor
namespace Cor
open PySem PySem.Spec PyProof.Rows L2
/-! ### None or a number; heaps that grow -/
abbrev oV : Option Int → V
  | none => .non
  | some i => .int i
section
variable {H H' H2 : Hp} {p : Addr} {o : HO} {Q : VK} {i : Int} {s : Str} {K : PySem.W.Frag}
theorem g_isN0 (h : Q (.bl true) H) : rIsN .non .non H Q := ⟨rfl, by rw [decide_eq_true rfl]; exact h⟩
theorem g_isN1 (h : Q (.bl false) H) : rIsN (.int i) .non H Q := ⟨rfl, by rw [decide_eq_false (by intro z; cases z)]; exact h⟩
theorem g_isN2 (h : Q (.bl false) H) : rIsN (.ref p) .non H Q := ⟨rfl, by rw [decide_eq_false (by intro z; cases z)]; exact h⟩
theorem g_notN0 (h : Q (.bl false) H) : rNotN .non .non H Q := ⟨rfl, by rw [decide_eq_true rfl]; exact h⟩
theorem g_notN1 (h : Q (.bl true) H) : rNotN (.int i) .non H Q := ⟨rfl, by rw [decide_eq_false (by intro z; cases z)]; exact h⟩
theorem g_notN2 (h : Q (.bl true) H) : rNotN (.ref p) .non H Q := ⟨rfl, by rw [decide_eq_false (by intro z; cases z)]; exact h⟩
theorem same_new (h : H p = none) : Same H (upd H p o) := fun a u e => by
  rw [upd_ne (ne_of_none e h)]
  exact e
theorem same_mut (e : Same H H') (h : H p = none) : Same H (upd H' p o) := fun a u ha => by
  rw [upd_ne (ne_of_none ha h)]
  exact e a u ha
theorem same_add (e : Same H H') (h : H' p = none) : Same H (upd H' p o) := e.trans (same_new h)
theorem Same.lst {xs : List V} (e : Same H H') (h : H p = some (.lst xs)) : H' p = some (.lst xs) := e p _ h
theorem same_t {xs : List V} (e : Same H H') (h : SqT K H p xs) : SqT K H' p xs := by
  rcases h with (h | ⟨o, h⟩) | h
  · exact .inl (.inl (e _ _ h))
  · exact .inl (.inr ⟨o, e _ _ h⟩)
  · exact .inr h
/-- a new address stands apart from a known one -/
theorem ne_new (h : H p = some o) {q : Addr} (hq : H q = none) : p ≠ q := ne_of_none h hq
end
theorem dec_T {p : Prop} [Decidable p] (h : p) {A B : Prop} (a : A) : if decide p = true then A else B := by
  rw [decide_eq_true h]; exact iteT a
theorem dec_F {p : Prop} [Decidable p] (h : ¬ p) {A B : Prop} (b : B) : if decide p = true then A else B := by
  rw [decide_eq_false h]; exact iteF b
theorem dec_NT {p : Prop} [Decidable p] (h : p) {A B : Prop} (b : B) : if (!decide p) = true then A else B := by
  rw [decide_eq_true h]; exact iteNT b
theorem dec_NF {p : Prop} [Decidable p] (h : ¬ p) {A B : Prop} (a : A) : if (!decide p) = true then A else B := by
  rw [decide_eq_false h]; exact iteNF a
end Cor
namespace Cor
open PySem PySem.Spec PyProof.Rows L2
theorem g_rng0 {g : TG} {tb : TS} {D : Ends} {k : Int} {σ : L2.St} {H : Hp} (h : D.nx σ H) : forRng g tb D 0 k σ H := h
theorem g_run0 {K : PySem.W.Frag} {a : Addr} {all : List V} {g : TG} {tb : TS} {D : Ends} {σ : L2.St} {H : Hp} (hs : SqL K H a all) (h : D.nx σ H) : forRun K a all g tb D [] σ H := ⟨hs, h⟩
theorem g_run1 {K : PySem.W.Frag} {a : Addr} {all r : List V} {x : V} {g : TG} {tb : TS} {D : Ends} {σ : L2.St} {H : Hp} (hs : SqL K H a all) (h : g x σ H fun σ2 H2 => tb { D with nx := forRun K a all g tb D r, ct := forRun K a all g tb D r, bk := D.nx } σ2 H2) : forRun K a all g tb D (x :: r) σ H := ⟨hs, h⟩
end Cor
namespace Cor
open PySem PySem.Spec PyProof.Rows L2
/-! ### texts -/
def rMulS : R2 := fun x y H Q => ∃ z n, x = .str z ∧ y = .int n ∧ MulOk z n ∧ Q (.str (Txt.mul z n)) H
theorem op_mul_str {X : Cx} : OpR X (binaryOp .Mult) rMulS := by
  intro pins s σ H x y v u Q I rx ry h
  obtain ⟨z, n, rfl, rfl, hok, q⟩ := h
  obtain ⟨t, rfl⟩ := rx
  obtain ⟨t', rfl⟩ := ry
  exact SB.mul hok (fun t' k => ⟨.str (Txt.mul z n), H, I.tok _, ⟨_, rfl⟩, q⟩)
def rSplit : V → List V → Hp → VK → Prop := fun x xs H Q => ∃ a b, x = .str a ∧ xs = [.str b] ∧ (b.length == 0) = false ∧ a.length + 2 ≤ sizeLine ∧ rNewStrs (Txt.split a b) H Q
def rJoin (K : PySem.W.Frag) : V → List V → Hp → VK → Prop := fun x xs H Q => ∃ a p, ∃ ys : List Str, x = .str a ∧ xs = [.ref p] ∧ (SqL K H p (ys.map V.str) ∨ SqT K H p (ys.map V.str)) ∧ (ys.map (·.length)).sum + ys.length * a.length ≤ 16777216 ∧ Q (.str (Txt.join a ys)) H
section
variable {σ : L2.St} {H : Hp} {Q : VK} {K : PySem.W.Frag} {to te : TE} {a b : Str} {n : Int}
theorem g_M1 {r : V → List V → Hp → VK → Prop} (h : to σ H fun x H1 => (∃ a, x = .str a) ∧ te σ H1 fun y H2 => r x [y] H2 Q) : tM1 r to te σ H Q := h
theorem g_mulS (hok : MulOk a n) (h : Q (.str (Txt.mul a n)) H) : rMulS (.str a) (.int n) H Q := ⟨a, n, rfl, rfl, hok, h⟩
theorem g_addS (hl : a.length + b.length ≤ 100000) (h : Q (.str (a ++ b)) H) : rAddS (.str a) (.str b) H Q := ⟨a, b, rfl, rfl, sz_of hl, h⟩
theorem g_slS {lo hi : Option Int} (hl : a.length ≤ 100000) (h : Q (.str (cutS a lo hi)) H) : rSlS (.str a) lo hi H Q := ⟨a, rfl, sz_of hl, h⟩
theorem g_eqS (h : Q (.bl (decide (a = b))) H) : rEq (.str a) (.str b) H Q := ⟨rfl, by
  have e : decide (V.str a = V.str b) = decide (a = b) := by
    by_cases q : a = b
    · subst q; simp
    · rw [decide_eq_false q, decide_eq_false (fun z => q (V.str.inj z))]
  rw [e]; exact h⟩
theorem g_neS (h : Q (.bl (!decide (a = b))) H) : rNe (.str a) (.str b) H Q := ⟨rfl, by
  have e : decide (V.str a = V.str b) = decide (a = b) := by
    by_cases q : a = b
    · subst q; simp
    · rw [decide_eq_false q, decide_eq_false (fun z => q (V.str.inj z))]
  rw [e]; exact h⟩
theorem g_raise {E : XK} {C : Addr} {D : Ends} (h : E (.ref C) none H) : tRaise E C D σ H := h
theorem g_tryO {c : Value} {tb : WX → TS} {ts : Addr → Value → Option Addr → TS} {D : Ends} (h : tb (wOnly K c ts (fun _ _ _ _ => False) D) D σ H) : tTryO K c tb ts D σ H := h
theorem g_tryM {l : List (Value × (Addr → Value → Option Addr → TS))} {tb : WX → TS} {D : Ends} (h : tb (wMany K (fun _ _ _ _ => False) D l) D σ H) : tTryM K l tb D σ H := h
end
end Cor
namespace Cor
open PySem PySem.Spec PyProof.Rows L2
/-- one clause with a name, its slot i -/
def tTryA (K : PySem.W.Frag) (c : Value) (i : Nat) (tb : WX → TS) (ts : Addr → Value → Option Addr → TS) : TS := fun D σ H => tb (wAs K c i ts (fun _ _ _ _ => False) D) D σ H
theorem g_tryA {K : PySem.W.Frag} {c : Value} {i : Nat} {tb : WX → TS} {ts : Addr → Value → Option Addr → TS} {D : Ends} {σ : L2.St} {H : Hp} (h : tb (wAs K c i ts (fun _ _ _ _ => False) D) D σ H) : tTryA K c i tb ts D σ H := h
/-- an index that lies in the list -/
theorem atI_in {α : Type} {xs : List α} {k : Int} (h0 : 0 ≤ k) (h1 : k < xs.length) : ∃ v, atI xs k = some v ∧ v ∈ xs := by
  obtain ⟨j, rfl⟩ : ∃ j : Nat, k = (j : Int) := ⟨k.toNat, by omega⟩
  have hj : j < xs.length := by omega
  exact ⟨xs[j], atI_nat (List.getElem?_eq_getElem hj), List.getElem_mem hj⟩
end Cor
namespace Cor
open PySem PySem.Spec PyProof.Rows L2
section
variable {K : PySem.W.Frag} {H : Hp} {σ : L2.St} {Q : VK} {D : Ends} {x y : Str} {a : Addr} {b : Bool}
theorem was_yes {i : Nat} {ts : Addr → Value → Option Addr → TS} {Wout : WX} (hx : Exm K x y true)
    (h : ∀ a, H a = none → ts a (.ref (He.ga K x)) none { nx := fun σ' H' => D.nx (σ'.set i none) H', rt := D.rt, bk := fun σ' H' => D.bk (σ'.set i none) H', ct := fun σ' H' => D.ct (σ'.set i none) H' } (σ.set i (some (.ref a))) H) :
    WE (wAs K (.ref (He.ga K y)) i ts Wout D) σ (.ref (He.ga K x)) none H := ⟨true, hx, fun _ a ha => h a ha, fun z => nomatch z⟩
theorem wonly_yes {ts : Addr → Value → Option Addr → TS} {Wout : WX} (hx : Exm K x y true) (h : ∀ a, H a = none → ts a (.ref (He.ga K x)) none D σ H) :
    WE (wOnly K (.ref (He.ga K y)) ts Wout D) σ (.ref (He.ga K x)) none H := ⟨true, hx, fun _ a ha => h a ha, fun z => nomatch z⟩
theorem g_isX (hc : ExcC K (He.ga K x)) (hk : Kit K x y b) (h : Q (.bl b) H) : rIsX K (.ref (He.ga K x)) none a [.ref a, .ref (He.ga K y)] H Q :=
  ⟨He.ga K x, rfl, rfl, hc, .ref (He.ga K y), .ref (He.ga K y), b, rfl, fun _ r => r, hk, h⟩
theorem g_isXT {n : String} (hc : ExcC K (He.ga K x)) (hk : KitT K x n b) (h : Q (.bl b) H) : rIsX K (.ref (He.ga K x)) none a [.ref a, .ty n] H Q :=
  ⟨He.ga K x, rfl, rfl, hc, .ty n, .type n, b, rfl, fun _ r => r, hk, h⟩
theorem g_cat {l m : Addr} {xs zs : List V} (h1 : H l = some (.lst xs)) (h2 : H m = some (.lst zs)) (h3 : xs.length + zs.length ≤ 100000) (h : ∀ p, H p = none → Q (.ref p) (upd H p (.lst (xs ++ zs)))) : rCat (.ref l) (.ref m) H Q :=
  ⟨l, m, xs, zs, rfl, rfl, h1, h2, sz_of h3, h⟩
theorem g_ixS {z : Str} {k : Int} {c : Nat} (hl : z.length ≤ 100000) (h1 : atI z.cps.toList k = some c) (h : Q (.str ⟨#[c]⟩) H) : rIxS (.str z) (.int k) H Q := ⟨z, k, c, rfl, rfl, sz_of hl, h1, h⟩
theorem g_in {p : Addr} {xs : List V} {v : V} (hs : SqL K H p xs) (hf : flatV v = true) (hx : xs.all flatV = true) (h : Q (.bl (inV v xs)) H) : rIn K false v (.ref p) H Q := ⟨p, xs, rfl, .inl hs, hf, hx, h⟩
theorem g_notin {p : Addr} {xs : List V} {v : V} (hs : SqL K H p xs) (hf : flatV v = true) (hx : xs.all flatV = true) (h : Q (.bl (!inV v xs)) H) : rIn K true v (.ref p) H Q := ⟨p, xs, rfl, .inl hs, hf, hx, h⟩
theorem g_lenS {z : Str} (hl : z.length ≤ 100000) (h : Q (.int z.length) H) : rLenT [.str z] H Q := ⟨z, rfl, sz_of hl, h⟩
theorem flat_oV (l : List (Option Int)) : (l.map oV).all flatV = true := by
  rw [List.all_eq_true]
  intro v hv
  obtain ⟨f, _, rfl⟩ := List.mem_map.mp hv
  cases f <;> rfl
theorem flat_int (l : List Int) : (l.map V.int).all flatV = true := by
  rw [List.all_eq_true]
  intro v hv
  obtain ⟨f, _, rfl⟩ := List.mem_map.mp hv
  rfl
theorem in_oV (k : Int) (l : List (Option Int)) : inV (.int k) (l.map oV) = decide (some k ∈ l) := by
  induction l with
  | nil => rfl
  | cons f r ih =>
    have e : inV (.int k) ((f :: r).map oV) = (eqV (oV f) (.int k) || inV (.int k) (r.map oV)) := rfl
    rw [e, ih]
    cases f with
    | none =>
      show (false || decide (some k ∈ r)) = _
      rw [Bool.false_or]
      simp
    | some i =>
      show ((i == k) || decide (some k ∈ r)) = _
      by_cases q : i = k
      · subst q; simp
      · have q2 : (i == k) = false := by simpa using q
        rw [q2, Bool.false_or]
        simp [Ne.symm q]
theorem in_int (k : Int) (l : List Int) : inV (.int k) (l.map V.int) = decide (k ∈ l) := by
  induction l with
  | nil => rfl
  | cons i r ih =>
    have e : inV (.int k) ((i :: r).map V.int) = ((i == k) || inV (.int k) (r.map V.int)) := rfl
    rw [e, ih]
    by_cases q : i = k
    · subst q; simp
    · have q2 : (i == k) = false := by simpa using q
      rw [q2, Bool.false_or]
      simp [Ne.symm q]
end
end Cor
namespace Cor
open PySem PySem.Spec PyProof.Rows L2
section
variable {K : PySem.W.Frag} {σ : L2.St} {H : Hp} {D : Ends} {g : TG} {tb : TS} {tt : TT} {te : TE} {vs : List Nat} {L : Addr} {Q : VK} {n : Nat} {k : Int}
theorem g_rngS (h : g (.int k) σ H fun σ2 H2 => tb { D with nx := forRng g tb D n (k + 1), ct := forRng g tb D n (k + 1), bk := D.nx } σ2 H2) : forRng g tb D (n + 1) k σ H := h
theorem g_lcr0 (h : Q (.ref L) H) : lcRng g tt te vs σ L Q 0 k H := h
theorem g_lcrS (h : g (.int k) (wipe σ vs) H fun σ2 H2 => wipe σ2 vs = wipe σ vs ∧ tt σ2 H2 fun b H3 =>
      if b = true then te σ2 H3 fun y H4 => ∃ acc, H4 L = some (.lst acc) ∧ acc.length < sizeLine ∧ lcRng g tt te vs σ L Q n (k + 1) (upd H4 L (.lst (acc ++ [y]))) else lcRng g tt te vs σ L Q n (k + 1) H3) : lcRng g tt te vs σ L Q (n + 1) k H := h
theorem g_wip {σ1 σ2 : L2.St} {A : Prop} (e : wipe σ1 vs = wipe σ2 vs) (h : A) : wipe σ1 vs = wipe σ2 vs ∧ A := ⟨e, h⟩
theorem g_some {A : Int → Prop} {i : Int} (h : A i) : ∃ j, V.int i = .int j ∧ A j := ⟨i, rfl, h⟩
end
end Cor

/-! ## PuK -/
local macro_rules | `(tactic| walk_at "go1") => `(tactic| first
  | (with_reducible first
    | refine Cor.g_seq ?_ | refine Cor.g_asg ?_ | refine Cor.g_ret ?_ | refine Cor.g_drop ?_ | refine Cor.g_ifs ?_ | refine Cor.g_op ?_
    | refine Cor.g_c ?_ | refine Cor.g_cons ?_ | refine Cor.g_nil ?_ | refine Cor.g_I0 ?_ | refine Cor.g_test ?_ | refine Cor.g_B ?_ | refine Cor.g_blV ?_ | refine L2.iteT ?_ | refine L2.iteF ?_ | refine Cor.iteNT ?_ | refine Cor.iteNF ?_
    | refine Cor.g_CB ?_ | refine Cor.g_call ?_ | refine Cor.g_lst ?_ | refine Cor.g_tup ?_ | refine Cor.g_and ?_ | refine Cor.g_or ?_ | refine Cor.g_not ?_ | refine Cor.g_andV ?_ | refine Cor.g_orV ?_ | refine Cor.g_notV ?_
    | refine Cor.g_chain ?_ | refine Cor.g_un ?_ | refine Cor.g_U ?_ | refine Cor.g_ifE ?_ | refine Cor.g_fld ?_ | refine Cor.g_isN0 ?_ | refine Cor.g_isN1 ?_ | refine Cor.g_isN2 ?_ | refine Cor.g_notN0 ?_ | refine Cor.g_notN1 ?_ | refine Cor.g_notN2 ?_ | refine Cor.g_eqS ?_ | refine Cor.g_neS ?_ | refine Cor.g_raise ?_ | refine Cor.g_M1 ?_ | refine Cor.g_tryO ?_ | refine Cor.g_tryA ?_ | refine Cor.g_tryM ?_ | refine Cor.g_eqI ?_ | refine Cor.g_neI ?_ | refine Cor.g_next ?_ | refine Cor.g_yes ?_ | refine Cor.g_rng0 ?_ | refine Cor.g_rngS ?_ | refine Cor.g_lcr0 ?_ | refine Cor.g_lcrS ?_ | refine Cor.g_some ?_
    | refine Cor.g_sub ?_ | refine Cor.g_bm ?_ | refine Cor.g_bm0 ?_ | refine Cor.g_callS ?_ | refine Cor.g_dget ?_ | refine Cor.g_din ?_ | refine Cor.g_dnotin ?_ | refine Cor.g_dput ?_ | refine Cor.g_sl ?_ | refine Cor.g_part ?_ | refine Cor.g_nopart ?_ | refine Cor.g_brk ?_ | refine Cor.g_cont ?_ | refine Cor.g_meth ?_ | refine Cor.g_methT ?_ | refine Cor.g_sfld ?_)
  | ((with_reducible refine' Cor.g_var ?e ?_); (case e => exact rfl))
  | ((with_reducible refine' Cor.g_name ?e ?_); (case e => exact rfl))
  | ((with_reducible refine Cor.g_new ?e ?_); (case e => exact rfl))
  | ((with_reducible refine Cor.g_wip ?e ?_); (case e => exact rfl))
  | ((with_reducible refine Cor.g_mod ?e ?_); (case e => first | decide | assumption | omega))
  | ((with_reducible refine Cor.g_div ?e ?f ?_); (case e => first | decide | assumption | omega); (case f => first | decide | assumption | omega)))
local macro_rules | `(tactic| walk_at "go") => `(tactic| repeat (walk_at "go1"))
/-! ### figures; the laws' cells, whole numbers -/
namespace Cor
open PySem PySem.Spec PyProof.Rows L2
/-- figures(number): a new list -/
def figs (n : Int) : List V := [.int (n / 100), .int (n / 10 % 10), .int (n % 10)]
def sp_figures (K : PySem.W.Frag) : Sp := fun vs H Q _ => ∃ n, vs = [.int n] ∧ ∀ p, H p = none → Q (.ref p) (upd H p (.lst (figs n)))
/-- figures: slots number -/
def t_figures (K : PySem.W.Frag) (E : XK) : TS :=
  tRet (tLst (tCons (tOp rDivI (tVar 0) (tC (.int 100))) (tCons (tOp rModI (tOp rDivI (tVar 0) (tC (.int 10))) (tC (.int 10))) (tCons (tOp rModI (tVar 0) (tC (.int 10))) tNil))))
abbrev n_figures : List Str := ["number"]

section
variable {K : PySem.W.Frag} {vs : List V} {H : Hp} {Q : VK} {E : XK}
theorem len_figures (h : sp_figures K vs H Q E) : vs.length = (["number"] : List Str).length := by
  obtain ⟨_, rfl, _⟩ := h
  rfl
end
theorem pure_figures (K : PySem.W.Frag) (vs : List V) (H : Hp) (Q : VK) (E : XK) (h : sp_figures K vs H Q E) : t_figures K E { nx := fun _ H' => Q .non H', rt := Q } (start n_figures vs) H := by
  obtain ⟨n, rfl, k⟩ := h
  unfold t_figures
  walk_at "go"
  exact k
/-- the laws' cell -/
def cell (ns : List Int) (k : Int) : Int := ns.getD k.toNat 0
def sp_law_cell_at (K : PySem.W.Frag) : Sp := fun vs H Q _ => ∃ a ns k, vs = [.ref a, .int k] ∧ SqL K H a (ns.map V.int) ∧ 0 ≤ k ∧ Q (.int (cell ns k)) H
/-- _law_cell_at: slots script, k -/
def t_law_cell_at (K : PySem.W.Frag) (E : XK) : TS :=
  tSeq (tIfS (tTest (tOp rLtI (tVar 1) (tCB (rLenL K) (tCons (tVar 0) tNil)))) (tRet (tOp (rIxL K) (tVar 0) (tVar 1))) tNext) (tRet (tC (.int 0)))
abbrev n_law_cell_at : List Str := ["script", "k"]

theorem len_law_cell_at {K : PySem.W.Frag} {vs : List V} {H : Hp} {Q : VK} {E : XK} (h : sp_law_cell_at K vs H Q E) : vs.length = (["script", "k"] : List Str).length := by
  obtain ⟨_, _, _, rfl, _⟩ := h
  rfl
theorem atI_map {ns : List Int} {k : Int} (h0 : 0 ≤ k) (h1 : k < ns.length) : atI (ns.map V.int) k = some (.int (cell ns k)) := by
  obtain ⟨j, rfl⟩ : ∃ j : Nat, k = (j : Int) := ⟨k.toNat, by omega⟩
  have hj : j < ns.length := by omega
  refine atI_nat ?_
  rw [List.getElem?_map, List.getElem?_eq_getElem hj]
  show some (V.int ns[j]) = some (V.int (cell ns (j : Int)))
  unfold cell
  rw [Int.toNat_natCast, List.getD_eq_getElem?_getD, List.getElem?_eq_getElem hj]
  rfl
theorem pure_law_cell_at (K : PySem.W.Frag) (vs : List V) (H : Hp) (Q : VK) (E : XK) (h : sp_law_cell_at K vs H Q E) : t_law_cell_at K E { nx := fun _ H' => Q .non H', rt := Q } (start n_law_cell_at vs) H := by
  obtain ⟨a, ns, k, rfl, hS, h0, q⟩ := h
  unfold t_law_cell_at
  walk_at "go"
  refine g_lenL hS ?_
  walk_at "go"
  refine g_iteD (fun hk => ?_) (fun hk => ?_)
  · rw [List.length_map] at hk
    walk_at "go"
    exact g_ixL hS (atI_map h0 hk) q
  · rw [List.length_map] at hk
    walk_at "go"
    have e : cell ns k = 0 := by
      unfold cell
      rw [List.getD_eq_getElem?_getD, List.getElem?_eq_none (by omega)]
      rfl
    rw [← e]
    exact q
/-- a whole number -/
def sp_law_whole (K : PySem.W.Frag) : Sp := fun vs H Q _ => ∃ i, vs = [.int i] ∧ Q (.bl true) H
/-- _law_whole: slots found -/
def t_law_whole (K : PySem.W.Frag) (E : XK) : TS :=
  tRet (tAndV (tCB (rIsi K) (tCons (tVar 0) (tCons (tC (.ty "int")) tNil))) (tNotV (tCB (rIsi K) (tCons (tVar 0) (tCons (tC (.ty "bool")) tNil)))))
abbrev n_law_whole : List Str := ["found"]

theorem len_law_whole {K : PySem.W.Frag} {vs : List V} {H : Hp} {Q : VK} {E : XK} (h : sp_law_whole K vs H Q E) : vs.length = (["found"] : List Str).length := by
  obtain ⟨_, rfl, _⟩ := h
  rfl
theorem tx_int {K : PySem.W.Frag} {H : Hp} {i : Int} : TyX K H (.int i) (.type "int") := .base (.int i)
theorem pure_law_whole (K : PySem.W.Frag) (vs : List V) (H : Hp) (Q : VK) (E : XK) (h : sp_law_whole K vs H Q E) : t_law_whole K E { nx := fun _ H' => Q .non H', rt := Q } (start n_law_whole vs) H := by
  obtain ⟨i, rfl, q⟩ := h
  unfold t_law_whole
  walk_at "go"
  refine g_isi (b := true) tx_int (show L2.kitB "int" "int" = some true by decide +kernel) ?_
  walk_at "go"
  refine g_isi (b := false) tx_int (show L2.kitB "int" "bool" = some false by decide +kernel) ?_
  walk_at "go"
  exact q
end Cor

/-! ## PuF -/
/-! ### knots: fits; the laws' own figures, drawn knots, knots compared -/
namespace Cor
open PySem PySem.Spec PyProof.Rows L2
/-- a figure that is lost, or the number's -/
def okF (a : Option Int) (f : Int) : Bool := match a with
  | none => true
  | some i => decide (i = f)
/-- the three figures -/
def fig (n : Int) : List Int := [n / 100, n / 10 % 10, n % 10]
theorem figs_eq (n : Int) : figs n = (fig n).map V.int := rfl
def fitsB (n : Int) (kn : List (Option Int)) : Bool := (kn.zip (fig n)).all fun p => okF p.1 p.2
abbrev KnAt (K : PySem.W.Frag) (H : Hp) (p : Addr) (kn : List (Option Int)) : Prop := SqL K H p (kn.map oV)
def sp_fits (K : PySem.W.Frag) : Sp := fun vs H Q _ => ∃ n p kn, vs = [.int n, .ref p] ∧ KnAt K H p kn ∧ kn.length = 3 ∧ ∀ H', Same H H' → Q (.bl (fitsB n kn)) H'
/-- fits: slots number, knots, own, place -/
def t_fits (K : PySem.W.Frag) (E : XK) : TS :=
  tSeq (tAsg (tCall (sp_figures K) [] E0 (tCons (tVar 0) tNil)) (gName 2)) (tSeq (tFor (iRng1 (tCons (tC (.int 3)) tNil)) (gName 3) (tIfS (tAnd (tTest (tOp rNotN (tOp (rIxL K) (tVar 1) (tVar 3)) (tC .non))) (tTest (tOp rNe (tOp (rIxL K) (tVar 1) (tVar 3)) (tOp (rIxL K) (tVar 2) (tVar 3))))) (tRet (tC (.bl false))) tNext)) (tRet (tC (.bl true))))
abbrev n_fits : List Str := ["number", "knots", "own", "place"]

theorem len_fits {K : PySem.W.Frag} {vs : List V} {H : Hp} {Q : VK} {E : XK} (h : sp_fits K vs H Q E) : vs.length = (["number", "knots"] : List Str).length := by
  obtain ⟨_, _, _, rfl, _⟩ := h
  rfl
theorem three {α : Type} {l : List α} (h : l.length = 3) : ∃ a b c, l = [a, b, c] := by
  match l, h with
  | [a, b, c], _ => exact ⟨a, b, c, rfl⟩
theorem pure_fits (K : PySem.W.Frag) (vs : List V) (H : Hp) (Q : VK) (E : XK) (h : sp_fits K vs H Q E) : t_fits K E { nx := fun _ H' => Q .non H', rt := Q } (start n_fits vs) H := by
  obtain ⟨n, p, kn, rfl, hk, h3, q⟩ := h
  obtain ⟨a, b, c, rfl⟩ := three h3
  unfold t_fits
  walk_at "go"
  refine ⟨n, rfl, fun o ho => ?_⟩
  walk_at "go"
  have hS : Same H (upd H o (.lst (figs n))) := same_new ho
  obtain ⟨H1, hH1⟩ : ∃ H1, H1 = upd H o (.lst (figs n)) := ⟨_, rfl⟩
  have hk1 : SqL K H1 p ([a, b, c].map oV) := by rw [hH1]; exact hS.seq hk
  have ho1 : SqL K H1 o (figs n) := SqL.of (by rw [hH1]; exact upd_same)
  rw [← hH1] at hS ⊢
  clear hH1 hk
  refine g_forR1 ?_
  walk_at "go"
  refine rng1_of (by decide) (by decide) ?_
  have turn : ∀ (rt : VK) (bk : L2.St → Hp → Prop) (x : Option Int) (f : Int) (k : Int) (w : Option V) (nxt : L2.St → Hp → Prop), atI ([a, b, c].map oV) k = some (oV x) → atI (figs n) k = some (.int f) →
      (okF x f = true → nxt [some (.int n), some (.ref p), some (.ref o), some (.int k)] H1) → (okF x f = false → rt (.bl false) H1) →
      gName 3 (.int k) [some (.int n), some (.ref p), some (.ref o), w] H1 fun σ2 H2 =>
        tIfS (tAnd (tTest (tOp rNotN (tOp (rIxL K) (tVar 1) (tVar 3)) (tC .non))) (tTest (tOp rNe (tOp (rIxL K) (tVar 1) (tVar 3)) (tOp (rIxL K) (tVar 2) (tVar 3))))) (tRet (tC (.bl false))) tNext { nx := nxt, rt := rt, bk := bk, ct := nxt } σ2 H2 := by
    intro rt bk x f k w nxt e1 e2 hy hn
    walk_at "go"
    refine g_ixL hk1 e1 ?_
    walk_at "go"
    cases x with
    | none =>
      walk_at "go"
      exact hy rfl
    | some i =>
      walk_at "go"
      refine g_ixL hk1 e1 ?_
      walk_at "go"
      refine g_ixL ho1 e2 ?_
      walk_at "go"
      refine g_iteN (fun h => ?_) (fun h => ?_)
      · walk_at "go"
        exact hn (decide_eq_false h)
      · walk_at "go"
        exact hy (decide_eq_true h)
  have e : fitsB n [a, b, c] = (okF a (n / 100) && (okF b (n / 10 % 10) && (okF c (n % 10) && true))) := rfl
  rw [e] at q
  refine turn _ _ a (n / 100) 0 _ _ rfl rfl (fun z1 => ?_) (fun z1 => by rw [z1] at q; exact q _ hS)
  refine turn _ _ b (n / 10 % 10) 1 _ _ rfl rfl (fun z2 => ?_) (fun z2 => by rw [z1, z2] at q; exact q _ hS)
  refine turn _ _ c (n % 10) 2 _ _ rfl rfl (fun z3 => ?_) (fun z3 => by rw [z1, z2, z3] at q; exact q _ hS)
  walk_at "go"
  rw [z1, z2, z3] at q
  exact q _ hS
/-- the laws' own figures: a new list -/
def sp_law_figures (K : PySem.W.Frag) : Sp := fun vs H Q _ => ∃ n, vs = [.int n] ∧ ∀ p, H p = none → Q (.ref p) (upd H p (.lst (figs n)))
/-- _law_figures: slots number -/
def t_law_figures (K : PySem.W.Frag) (E : XK) : TS :=
  tRet (tLst (tCons (tOp rDivI (tVar 0) (tC (.int 100))) (tCons (tOp rModI (tOp rDivI (tVar 0) (tC (.int 10))) (tC (.int 10))) (tCons (tOp rModI (tVar 0) (tC (.int 10))) tNil))))
abbrev n_law_figures : List Str := ["number"]

theorem len_law_figures {K : PySem.W.Frag} {vs : List V} {H : Hp} {Q : VK} {E : XK} (h : sp_law_figures K vs H Q E) : vs.length = (["number"] : List Str).length := by
  obtain ⟨_, rfl, _⟩ := h
  rfl
theorem pure_law_figures (K : PySem.W.Frag) (vs : List V) (H : Hp) (Q : VK) (E : XK) (h : sp_law_figures K vs H Q E) : t_law_figures K E { nx := fun _ H' => Q .non H', rt := Q } (start n_law_figures vs) H := by
  obtain ⟨n, rfl, k⟩ := h
  unfold t_law_figures
  walk_at "go"
  exact k
/-- the figures of a number, some lost -/
def drawn (c m : Int) : List (Option Int) :=
  [if m % 2 = 1 then none else some (c % 1000 / 100), if m / 2 % 2 = 1 then none else some (c % 1000 / 10 % 10), if m / 4 % 2 = 1 then none else some (c % 1000 % 10)]
def sp_law_drawn (K : PySem.W.Frag) : Sp := fun vs H Q _ => ∃ c m, vs = [.int c, .int m] ∧ ∀ p H', H p = none → Same H H' → H' p = some (.lst ((drawn c m).map oV)) → Q (.ref p) H'
/-- _law_drawn: slots cell, mask, knots, k -/
def t_law_drawn (K : PySem.W.Frag) (E : XK) : TS :=
  tSeq (tAsg (tCall (sp_law_figures K) [] E0 (tCons (tOp rModI (tVar 0) (tC (.int 1000))) tNil)) (gName 2)) (tSeq (tFor (iRng1 (tCons (tC (.int 3)) tNil)) (gName 3) (tIfS (tTest (tOp rEq (tOp rModI (tOp rDivI (tVar 1) (tOp (rIxL K) (tLst (tCons (tC (.int 1)) (tCons (tC (.int 2)) (tCons (tC (.int 4)) tNil)))) (tVar 3))) (tC (.int 2))) (tC (.int 1)))) (tAsg (tC .non) (gSub (tVar 2) (tVar 3) rSetL)) tNext)) (tRet (tVar 2)))
abbrev n_law_drawn : List Str := ["cell", "mask", "knots", "k"]

theorem len_law_drawn {K : PySem.W.Frag} {vs : List V} {H : Hp} {Q : VK} {E : XK} (h : sp_law_drawn K vs H Q E) : vs.length = (["cell", "mask"] : List Str).length := by
  obtain ⟨_, _, rfl, _⟩ := h
  rfl
theorem pure_law_drawn (K : PySem.W.Frag) (vs : List V) (H : Hp) (Q : VK) (E : XK) (h : sp_law_drawn K vs H Q E) : t_law_drawn K E { nx := fun _ H' => Q .non H', rt := Q } (start n_law_drawn vs) H := by
  obtain ⟨c, m, rfl, q⟩ := h
  unfold t_law_drawn
  walk_at "go"
  refine ⟨_, rfl, fun p hp => ?_⟩
  walk_at "go"
  refine g_forR1 ?_
  walk_at "go"
  refine rng1_of (by decide) (by decide) ?_
  have turn : ∀ (rt : VK) (bk : L2.St → Hp → Prop) (k d : Int) (j : Nat) (w : Option V) (nxt : L2.St → Hp → Prop) (xs : List V) (H1 : Hp), atI [V.int 1, V.int 2, V.int 4] k = some (.int d) → 0 < d → d < 1073741824 → ixN xs.length k = some j → Same H H1 → H1 p = some (.lst xs) →
      (∀ H2, Same H H2 → H2 p = some (.lst (if m / d % 2 = 1 then xs.set j .non else xs)) → nxt [some (.int c), some (.int m), some (.ref p), some (.int k)] H2) →
      gName 3 (.int k) [some (.int c), some (.int m), some (.ref p), w] H1 fun σ2 H2 =>
        tIfS (tTest (tOp rEq (tOp rModI (tOp rDivI (tVar 1) (tOp (rIxL K) (tLst (tCons (tC (.int 1)) (tCons (tC (.int 2)) (tCons (tC (.int 4)) tNil)))) (tVar 3))) (tC (.int 2))) (tC (.int 1)))) (tAsg (tC .non) (gSub (tVar 2) (tVar 3) rSetL)) tNext { nx := nxt, rt := rt, bk := bk, ct := nxt } σ2 H2 := by
    intro rt bk k d j w nxt xs H1 e1 d0 d1 e2 hS h1 hn
    walk_at "go"
    intro o ho
    walk_at "go"
    refine g_ixL (SqL.of upd_same) e1 ?_
    walk_at "go"
    have np : p ≠ o := ne_of_none h1 ho
    refine g_iteD (fun h => ?_) (fun h => ?_)
    · rw [if_pos h] at hn
      walk_at "go"
      refine g_setL (j := j) (by rw [upd_ne np]; exact h1) e2 ?_
      exact hn _ (same_mut (same_add hS ho) hp) upd_same
    · rw [if_neg h] at hn
      walk_at "go"
      exact hn _ (same_add hS ho) (by rw [upd_ne np]; exact h1)
  refine turn _ _ 0 1 0 _ _ (figs (c % 1000)) _ rfl (by decide) (by decide) rfl (same_new hp) upd_same fun H1 s1 h1 => ?_
  refine turn _ _ 1 2 1 _ _ _ _ rfl (by decide) (by decide) (by split <;> rfl) s1 h1 fun H2 s2 h2 => ?_
  refine turn _ _ 2 4 2 _ _ _ _ rfl (by decide) (by decide) (by split <;> split <;> rfl) s2 h2 fun H3 s3 h3 => ?_
  walk_at "go"
  refine q p H3 hp s3 ?_
  rw [h3]
  congr 2
  unfold drawn
  rw [Int.ediv_one]
  split <;> split <;> split <;> rfl
/-- two lists of the same knots -/
def sp_law_knots (K : PySem.W.Frag) : Sp := fun vs H Q _ => ∃ p q kn, vs = [.ref p, .ref q] ∧ H p = some (.lst (kn.map oV)) ∧ KnAt K H q kn ∧ kn.length = 3 ∧ Q (.bl true) H
/-- _law_knots: slots found, due, k -/
def t_law_knots (K : PySem.W.Frag) (E : XK) : TS :=
  tSeq (tIfS (tOr (tNot (tB (tCB (rIsi K) (tCons (tVar 0) (tCons (tC (.ty "list")) tNil))))) (tTest (tOp rNe (tCB (rLenL K) (tCons (tVar 0) tNil)) (tC (.int 3))))) (tRet (tC (.bl false))) tNext) (tSeq (tFor (iRng1 (tCons (tC (.int 3)) tNil)) (gName 2) (tIfS (tTest (tOp rIsN (tOp (rIxL K) (tVar 1) (tVar 2)) (tC .non))) (tIfS (tTest (tOp rNotN (tOp (rIxL K) (tVar 0) (tVar 2)) (tC .non))) (tRet (tC (.bl false))) tNext) (tIfS (tOr (tNot (tB (tCall (sp_law_whole K) [] E0 (tCons (tOp (rIxL K) (tVar 0) (tVar 2)) tNil)))) (tTest (tOp rNe (tOp (rIxL K) (tVar 0) (tVar 2)) (tOp (rIxL K) (tVar 1) (tVar 2))))) (tRet (tC (.bl false))) tNext))) (tRet (tC (.bl true))))
abbrev n_law_knots : List Str := ["found", "due", "k"]

theorem len_law_knots {K : PySem.W.Frag} {vs : List V} {H : Hp} {Q : VK} {E : XK} (h : sp_law_knots K vs H Q E) : vs.length = (["found", "due"] : List Str).length := by
  obtain ⟨_, _, _, rfl, _⟩ := h
  rfl
theorem tx_lst {K : PySem.W.Frag} {H : Hp} {p : Addr} {xs : List V} (h : H p = some (.lst xs)) : TyX K H (.ref p) (.type "list") := .base (.lst h)
theorem pure_law_knots (K : PySem.W.Frag) (vs : List V) (H : Hp) (Q : VK) (E : XK) (h : sp_law_knots K vs H Q E) : t_law_knots K E { nx := fun _ H' => Q .non H', rt := Q } (start n_law_knots vs) H := by
  obtain ⟨p, r, kn, rfl, hp, hr, h3, q⟩ := h
  obtain ⟨a, b, c, rfl⟩ := three h3
  have hp' : SqL K H p ([a, b, c].map oV) := SqL.of hp
  unfold t_law_knots
  walk_at "go"
  refine g_isi (b := true) (tx_lst hp) (show L2.kitB "list" "list" = some true by decide +kernel) ?_
  walk_at "go"
  refine g_lenL (SqL.of hp) ?_
  walk_at "go"
  refine dec_NT rfl ?_
  walk_at "go"
  refine g_forR1 ?_
  walk_at "go"
  refine rng1_of (by decide) (by decide) ?_
  have turn : ∀ (rt : VK) (bk : L2.St → Hp → Prop) (x : Option Int) (k : Int) (w : Option V) (nxt : L2.St → Hp → Prop), atI ([a, b, c].map oV) k = some (oV x) → nxt [some (.ref p), some (.ref r), some (.int k)] H →
      gName 2 (.int k) [some (.ref p), some (.ref r), w] H fun σ2 H2 =>
        tIfS (tTest (tOp rIsN (tOp (rIxL K) (tVar 1) (tVar 2)) (tC .non))) (tIfS (tTest (tOp rNotN (tOp (rIxL K) (tVar 0) (tVar 2)) (tC .non))) (tRet (tC (.bl false))) tNext) (tIfS (tOr (tNot (tB (tCall (sp_law_whole K) [] E0 (tCons (tOp (rIxL K) (tVar 0) (tVar 2)) tNil)))) (tTest (tOp rNe (tOp (rIxL K) (tVar 0) (tVar 2)) (tOp (rIxL K) (tVar 1) (tVar 2))))) (tRet (tC (.bl false))) tNext) { nx := nxt, rt := rt, bk := bk, ct := nxt } σ2 H2 := by
    intro rt bk x k w nxt e1 hn
    walk_at "go"
    refine g_ixL hr e1 ?_
    walk_at "go"
    cases x with
    | none =>
      walk_at "go"
      refine g_ixL hp' e1 ?_
      walk_at "go"
      exact hn
    | some i =>
      walk_at "go"
      refine g_ixL hp' e1 ?_
      walk_at "go"
      refine ⟨i, rfl, ?_⟩
      walk_at "go"
      refine g_ixL hp' e1 ?_
      walk_at "go"
      refine g_ixL hr e1 ?_
      walk_at "go"
      refine dec_NT rfl ?_
      walk_at "go"
      exact hn
  refine turn _ _ a 0 _ _ rfl ?_
  refine turn _ _ b 1 _ _ rfl ?_
  refine turn _ _ c 2 _ _ rfl ?_
  walk_at "go"
  exact q
end Cor

/-! ## PuT -/
/-! ### knots as texts -/
namespace Cor
open PySem PySem.Spec PyProof.Rows L2
def oTab : List Str := ["", "o", "oo", "ooo", "oooo", "ooooo", "oooooo", "ooooooo", "oooooooo", "ooooooooo"]
def lTab : List Str := ["", "e", "l2", "l3", "l4", "l5", "l6", "l7", "l8", "l9"]
/-- a part: of a figure, at the units or not -/
def partS (f : Option Int) (u : Bool) : Str := match f with
  | none => "?"
  | some i => (if u = true then lTab else oTab).getD i.toNat ""
def Fig (f : Option Int) : Prop := ∀ i, f = some i → 0 ≤ i ∧ i ≤ 9
theorem ten {i : Int} (h : 0 ≤ i ∧ i ≤ 9) : i = 0 ∨ i = 1 ∨ i = 2 ∨ i = 3 ∨ i = 4 ∨ i = 5 ∨ i = 6 ∨ i = 7 ∨ i = 8 ∨ i = 9 := by omega
theorem mul_o : ∀ i : Int, 0 ≤ i ∧ i ≤ 9 → Txt.mul "o" i = oTab.getD i.toNat "" := by
  intro i h
  rcases ten h with rfl | rfl | rfl | rfl | rfl | rfl | rfl | rfl | rfl | rfl <;> decide +kernel
theorem mul_ok : ∀ i : Int, 0 ≤ i ∧ i ≤ 9 → MulOk "o" i := by
  intro i h
  rcases ten h with rfl | rfl | rfl | rfl | rfl | rfl | rfl | rfl | rfl | rfl <;> first | exact ⟨by decide +kernel, fun h => absurd (by decide) h, fun h => absurd (by decide) h⟩ | exact ⟨by decide +kernel, fun _ _ => by decide +kernel, fun _ _ => by decide +kernel⟩
theorem num_l : ∀ i : Int, 0 ≤ i ∧ i ≤ 9 → i ≠ 0 → i ≠ 1 → ("l" : Str) ++ Str.ofString (toString i) = lTab.getD i.toNat "" := by
  intro i h h0 h1
  rcases ten h with rfl | rfl | rfl | rfl | rfl | rfl | rfl | rfl | rfl | rfl <;> first | exact absurd rfl h0 | exact absurd rfl h1 | decide +kernel
theorem num_ok : ∀ i : Int, 0 ≤ i ∧ i ≤ 9 → i.natAbs.log2 < 1920 ∧ ("l" : Str).length + (Str.ofString (toString i)).length ≤ 100000 := by
  intro i h
  rcases ten h with rfl | rfl | rfl | rfl | rfl | rfl | rfl | rfl | rfl | rfl <;> decide +kernel
theorem cut_o : ∀ i : Int, 0 ≤ i ∧ i ≤ 9 → cutS "ooooooooo" none (some i) = oTab.getD i.toNat "" := by
  intro i h
  rcases ten h with rfl | rfl | rfl | rfl | rfl | rfl | rfl | rfl | rfl | rfl <;> decide +kernel
theorem part_len (f : Option Int) (u : Bool) : (partS f u).length ≤ 9 := by
  cases f with
  | none =>
    show ("?" : Str).length ≤ 9
    decide +kernel
  | some i =>
    show ((if u = true then lTab else oTab).getD i.toNat "").length ≤ 9
    have all : ∀ (l : List Str), (l.all fun z => decide (z.length ≤ 9)) = true → ∀ j : Nat, (l.getD j "").length ≤ 9 := fun l hl j => by
      rw [List.getD_eq_getElem?_getD]
      cases e : l[j]? with
      | none => decide +kernel
      | some z => exact of_decide_eq_true (List.all_eq_true.mp hl z (List.mem_of_getElem? e))
    cases u with
    | true => exact all lTab (by decide +kernel) _
    | false => exact all oTab (by decide +kernel) _
def sp_part_shown (K : PySem.W.Frag) : Sp := fun vs H Q _ => ∃ f u, vs = [oV f, .bl u] ∧ Fig f ∧ Q (.str (partS f u)) H
/-- part_shown: slots figure, units -/
def t_part_shown (K : PySem.W.Frag) (E : XK) : TS :=
  tSeq (tIfS (tTest (tOp rIsN (tVar 0) (tC .non))) (tRet (tC (.str "?"))) tNext) (tSeq (tIfS (tNot (tB (tVar 1))) (tRet (tOp rMulS (tC (.str "o")) (tVar 0))) tNext) (tSeq (tIfS (tTest (tOp rEq (tVar 0) (tC (.int 0)))) (tRet (tC (.str ""))) tNext) (tSeq (tIfS (tTest (tOp rEq (tVar 0) (tC (.int 1)))) (tRet (tC (.str "e"))) tNext) (tRet (tOp rAddS (tC (.str "l")) (tCB rStrI (tCons (tVar 0) tNil)))))))
abbrev n_part_shown : List Str := ["figure", "units"]

theorem len_part_shown {K : PySem.W.Frag} {vs : List V} {H : Hp} {Q : VK} {E : XK} (h : sp_part_shown K vs H Q E) : vs.length = (["figure", "units"] : List Str).length := by
  obtain ⟨_, _, rfl, _⟩ := h
  rfl
theorem pure_part_shown (K : PySem.W.Frag) (vs : List V) (H : Hp) (Q : VK) (E : XK) (h : sp_part_shown K vs H Q E) : t_part_shown K E { nx := fun _ H' => Q .non H', rt := Q } (start n_part_shown vs) H := by
  obtain ⟨f, u, rfl, hf, q⟩ := h
  unfold t_part_shown
  cases f with
  | none =>
    walk_at "go"
    exact q
  | some i =>
    have hi := hf i rfl
    cases u with
    | false =>
      walk_at "go"
      refine g_mulS (mul_ok i hi) ?_
      rw [mul_o i hi]
      exact q
    | true =>
      walk_at "go"
      refine g_iteD (fun h0 => ?_) (fun h0 => ?_)
      · subst h0
        walk_at "go"
        exact q
      · walk_at "go"
        refine g_iteD (fun h1 => ?_) (fun h1 => ?_)
        · subst h1
          walk_at "go"
          exact q
        · walk_at "go"
          refine ⟨i, rfl, (num_ok i hi).1, ?_⟩
          refine g_addS (num_ok i hi).2 ?_
          rw [num_l i hi h0 h1]
          exact q
/-- the laws' own part -/
def sp_law_part (K : PySem.W.Frag) : Sp := fun vs H Q _ => ∃ f u, vs = [oV f, .bl u] ∧ Fig f ∧ ∀ H', Same H H' → Q (.str (partS f u)) H'
/-- _law_part: slots figure, units -/
def t_law_part (K : PySem.W.Frag) (E : XK) : TS :=
  tSeq (tIfS (tTest (tOp rIsN (tVar 0) (tC .non))) (tRet (tC (.str "?"))) tNext) (tSeq (tIfS (tNot (tB (tVar 1))) (tRet (tSl rSlS (tC (.str "ooooooooo")) tNoPart (tPart (tVar 0)))) tNext) (tRet (tOp (rIxL K) (tLst (tCons (tC (.str "")) (tCons (tC (.str "e")) (tCons (tC (.str "l2")) (tCons (tC (.str "l3")) (tCons (tC (.str "l4")) (tCons (tC (.str "l5")) (tCons (tC (.str "l6")) (tCons (tC (.str "l7")) (tCons (tC (.str "l8")) (tCons (tC (.str "l9")) tNil))))))))))) (tVar 0))))
abbrev n_law_part : List Str := ["figure", "units"]

theorem len_law_part {K : PySem.W.Frag} {vs : List V} {H : Hp} {Q : VK} {E : XK} (h : sp_law_part K vs H Q E) : vs.length = (["figure", "units"] : List Str).length := by
  obtain ⟨_, _, rfl, _⟩ := h
  rfl
theorem pure_law_part (K : PySem.W.Frag) (vs : List V) (H : Hp) (Q : VK) (E : XK) (h : sp_law_part K vs H Q E) : t_law_part K E { nx := fun _ H' => Q .non H', rt := Q } (start n_law_part vs) H := by
  obtain ⟨f, u, rfl, hf, q⟩ := h
  unfold t_law_part
  cases f with
  | none =>
    walk_at "go"
    exact q _ (Same.refl _)
  | some i =>
    have hi := hf i rfl
    cases u with
    | false =>
      walk_at "go"
      refine g_slS (show ("ooooooooo" : Str).length ≤ 100000 by decide +kernel) ?_
      rw [cut_o i hi]
      exact q _ (Same.refl _)
    | true =>
      walk_at "go"
      intro o ho
      walk_at "go"
      have e : atI (lTab.map V.str) i = some (.str (partS (some i) true)) := by
        rcases ten hi with rfl | rfl | rfl | rfl | rfl | rfl | rfl | rfl | rfl | rfl <;> rfl
      refine g_ixL (SqL.of upd_same) e ?_
      exact q _ (same_new ho)
/-- the text of three knots -/
def textOf (kn : List (Option Int)) : Str := partS (kn.getD 0 none) false ++ "/" ++ partS (kn.getD 1 none) false ++ "/" ++ partS (kn.getD 2 none) true
theorem slash_len : ("/" : Str).length = 1 := by decide +kernel
theorem text_len (kn : List (Option Int)) : (textOf kn).length ≤ 40 := by
  unfold textOf
  have h1 := part_len (kn.getD 0 none) false
  have h2 := part_len (kn.getD 1 none) false
  have h3 := part_len (kn.getD 2 none) true
  have h4 := slash_len
  rw [Str.length_append, Str.length_append, Str.length_append, Str.length_append]
  omega
def sp_shown (K : PySem.W.Frag) : Sp := fun vs H Q _ => ∃ p kn, vs = [.ref p] ∧ KnAt K H p kn ∧ kn.length = 3 ∧ (∀ f ∈ kn, Fig f) ∧ Q (.str (textOf kn)) H
/-- shown: slots knots -/
def t_shown (K : PySem.W.Frag) (E : XK) : TS :=
  tRet (tOp rAddS (tOp rAddS (tOp rAddS (tOp rAddS (tCall (sp_part_shown K) [] E0 (tCons (tOp (rIxL K) (tVar 0) (tC (.int 0))) (tCons (tC (.bl false)) tNil))) (tC (.str "/"))) (tCall (sp_part_shown K) [] E0 (tCons (tOp (rIxL K) (tVar 0) (tC (.int 1))) (tCons (tC (.bl false)) tNil)))) (tC (.str "/"))) (tCall (sp_part_shown K) [] E0 (tCons (tOp (rIxL K) (tVar 0) (tC (.int 2))) (tCons (tC (.bl true)) tNil))))
abbrev n_shown : List Str := ["knots"]

theorem len_shown {K : PySem.W.Frag} {vs : List V} {H : Hp} {Q : VK} {E : XK} (h : sp_shown K vs H Q E) : vs.length = (["knots"] : List Str).length := by
  obtain ⟨_, _, rfl, _⟩ := h
  rfl
theorem pure_shown (K : PySem.W.Frag) (vs : List V) (H : Hp) (Q : VK) (E : XK) (h : sp_shown K vs H Q E) : t_shown K E { nx := fun _ H' => Q .non H', rt := Q } (start n_shown vs) H := by
  obtain ⟨p, kn, rfl, hk, h3, hf, q⟩ := h
  obtain ⟨a, b, c, rfl⟩ := three h3
  have l1 := part_len a false
  have l2 := part_len b false
  have l3 := part_len c true
  have l4 := slash_len
  unfold t_shown
  walk_at "go"
  refine g_ixL hk (show atI ([a, b, c].map oV) 0 = some (oV a) from rfl) ?_
  walk_at "go"
  refine ⟨a, false, rfl, hf a (by simp), ?_⟩
  walk_at "go"
  refine g_addS (by omega) ?_
  walk_at "go"
  refine g_ixL hk (show atI ([a, b, c].map oV) 1 = some (oV b) from rfl) ?_
  walk_at "go"
  refine ⟨b, false, rfl, hf b (by simp), ?_⟩
  refine g_addS (by rw [Str.length_append]; omega) ?_
  walk_at "go"
  refine g_addS (by rw [Str.length_append, Str.length_append]; omega) ?_
  walk_at "go"
  refine g_ixL hk (show atI ([a, b, c].map oV) 2 = some (oV c) from rfl) ?_
  walk_at "go"
  refine ⟨c, true, rfl, hf c (by simp), ?_⟩
  refine g_addS (by rw [Str.length_append, Str.length_append, Str.length_append]; omega) ?_
  exact q
def sp_law_text (K : PySem.W.Frag) : Sp := fun vs H Q _ => ∃ p kn, vs = [.ref p] ∧ KnAt K H p kn ∧ kn.length = 3 ∧ (∀ f ∈ kn, Fig f) ∧ ∀ H', Same H H' → Q (.str (textOf kn)) H'
/-- _law_text: slots knots -/
def t_law_text (K : PySem.W.Frag) (E : XK) : TS :=
  tRet (tOp rAddS (tOp rAddS (tOp rAddS (tOp rAddS (tCall (sp_law_part K) [] E0 (tCons (tOp (rIxL K) (tVar 0) (tC (.int 0))) (tCons (tC (.bl false)) tNil))) (tC (.str "/"))) (tCall (sp_law_part K) [] E0 (tCons (tOp (rIxL K) (tVar 0) (tC (.int 1))) (tCons (tC (.bl false)) tNil)))) (tC (.str "/"))) (tCall (sp_law_part K) [] E0 (tCons (tOp (rIxL K) (tVar 0) (tC (.int 2))) (tCons (tC (.bl true)) tNil))))
abbrev n_law_text : List Str := ["knots"]

theorem len_law_text {K : PySem.W.Frag} {vs : List V} {H : Hp} {Q : VK} {E : XK} (h : sp_law_text K vs H Q E) : vs.length = (["knots"] : List Str).length := by
  obtain ⟨_, _, rfl, _⟩ := h
  rfl
theorem pure_law_text (K : PySem.W.Frag) (vs : List V) (H : Hp) (Q : VK) (E : XK) (h : sp_law_text K vs H Q E) : t_law_text K E { nx := fun _ H' => Q .non H', rt := Q } (start n_law_text vs) H := by
  obtain ⟨p, kn, rfl, hk, h3, hf, q⟩ := h
  obtain ⟨a, b, c, rfl⟩ := three h3
  have l1 := part_len a false
  have l2 := part_len b false
  have l3 := part_len c true
  have l4 := slash_len
  unfold t_law_text
  walk_at "go"
  refine g_ixL hk (show atI ([a, b, c].map oV) 0 = some (oV a) from rfl) ?_
  walk_at "go"
  refine ⟨a, false, rfl, hf a (by simp), fun H1 s1 => ?_⟩
  walk_at "go"
  refine g_addS (by omega) ?_
  walk_at "go"
  refine g_ixL (s1.seq hk) (show atI ([a, b, c].map oV) 1 = some (oV b) from rfl) ?_
  walk_at "go"
  refine ⟨b, false, rfl, hf b (by simp), fun H2 s2 => ?_⟩
  refine g_addS (by rw [Str.length_append]; omega) ?_
  walk_at "go"
  refine g_addS (by rw [Str.length_append, Str.length_append]; omega) ?_
  walk_at "go"
  refine g_ixL ((s1.trans s2).seq hk) (show atI ([a, b, c].map oV) 2 = some (oV c) from rfl) ?_
  walk_at "go"
  refine ⟨c, true, rfl, hf c (by simp), fun H3 s3 => ?_⟩
  refine g_addS (by rw [Str.length_append, Str.length_append, Str.length_append]; omega) ?_
  exact q _ ((s1.trans s2).trans s3)
theorem drawn_fig (c m : Int) : ∀ f ∈ drawn c m, Fig f := by
  intro f hf i hi
  unfold drawn at hf
  simp only [List.mem_cons, List.mem_nil_iff, or_false] at hf
  rcases hf with rfl | rfl | rfl <;> (split at hi <;> simp at hi <;> omega)
end Cor

/-! ## PuR -/
/-! ### texts read -/
namespace Cor
open PySem PySem.Spec PyProof.Rows L2
/-- the first figure from k on, n of them, whose part is z -/
def findF (z : Str) (u : Bool) : Nat → Int → Option Int
  | 0, _ => none
  | n + 1, k => if z = partS (some k) u then some k else findF z u n (k + 1)
/-- what a part says -/
def readP (z : Str) (u : Bool) : Option (Option Int) := if z = "?" then some none else (findF z u 10 0).map some
def sp_part_read (K : PySem.W.Frag) : Sp := fun vs H Q E => ∃ z u, vs = [.str z, .bl u] ∧ (∀ f, readP z u = some f → Q (oV f) H) ∧ (readP z u = none → E (.ref (He.ga K "Illtied")) none H)
/-- part_read: slots part, units, figure -/
def t_part_read (K : PySem.W.Frag) (E : XK) : TS :=
  tSeq (tIfS (tTest (tOp rEq (tVar 0) (tC (.str "?")))) (tRet (tC .non)) tNext) (tSeq (tFor (iRng1 (tCons (tC (.int 10)) tNil)) (gName 2) (tIfS (tTest (tOp rEq (tVar 0) (tCall (sp_part_shown K) [] E0 (tCons (tVar 2) (tCons (tVar 1) tNil))))) (tRet (tVar 2)) tNext)) (tRaise E (He.ga K "Illtied")))
abbrev n_part_read : List Str := ["part", "units", "figure"]

theorem len_part_read {K : PySem.W.Frag} {vs : List V} {H : Hp} {Q : VK} {E : XK} (h : sp_part_read K vs H Q E) : vs.length = (["part", "units"] : List Str).length := by
  obtain ⟨_, _, rfl, _⟩ := h
  rfl
theorem pure_part_read (K : PySem.W.Frag) (vs : List V) (H : Hp) (Q : VK) (E : XK) (h : sp_part_read K vs H Q E) : t_part_read K E { nx := fun _ H' => Q .non H', rt := Q } (start n_part_read vs) H := by
  obtain ⟨z, u, rfl, q, qe⟩ := h
  unfold t_part_read
  walk_at "go"
  refine g_iteD (fun h0 => ?_) (fun h0 => ?_)
  · walk_at "go"
    exact q none (if_pos h0)
  · have e0 : readP z u = (findF z u 10 0).map some := if_neg h0
    rw [e0] at q qe
    walk_at "go"
    refine g_forR1 ?_
    walk_at "go"
    refine rng1_of (by decide) (by decide) ?_
    have run : ∀ (n : Nat) (k : Int) (w : Option V), 0 ≤ k → k + n ≤ 10 → (∀ f, findF z u n k = some f → Q (.int f) H) → (findF z u n k = none → E (.ref (He.ga K "Illtied")) none H) →
        forRng (gName 2) (tIfS (tTest (tOp rEq (tVar 0) (tCall (sp_part_shown K) [] E0 (tCons (tVar 2) (tCons (tVar 1) tNil))))) (tRet (tVar 2)) tNext)
          { nx := tRaise E (He.ga K "Illtied") { nx := fun _ H' => Q .non H', rt := Q }, rt := Q } n k [some (.str z), some (.bl u), w] H := by
      intro n
      induction n with
      | zero =>
        intro k w h1 h2 a b
        walk_at "go"
        exact b rfl
      | succ n ih =>
        intro k w h1 h2 a b
        walk_at "go"
        refine ⟨some k, u, rfl, fun i hi => ?_, ?_⟩
        · have ei : k = i := Option.some.inj hi
          omega
        walk_at "go"
        refine g_iteD (fun h => ?_) (fun h => ?_)
        · walk_at "go"
          exact a k (if_pos h)
        · walk_at "go"
          have e1 : findF z u (n + 1) k = findF z u n (k + 1) := if_neg h
          rw [e1] at a b
          exact ih (k + 1) _ (by omega) (by omega) a b
    exact run 10 0 _ (by decide) (by decide) (fun f hf => q (some f) (by rw [hf]; rfl)) (fun hf => qe (by rw [hf]; rfl))
/-- what a text says -/
def readT (z : Str) : Option (List (Option Int)) := match Txt.split z "/" with
  | [a, b, c] => (match readP a false with
    | none => none
    | some x => (match readP b false with
      | none => none
      | some y => (match readP c true with
        | none => none
        | some w => some [x, y, w])))
  | _ => none
def sp_read (K : PySem.W.Frag) : Sp := fun vs H Q E => ∃ z, vs = [.str z] ∧ z.length ≤ 10000 ∧
  (∀ kn, readT z = some kn → ∀ p H', H p = none → Same H H' → H' p = some (.lst (kn.map oV)) → Q (.ref p) H') ∧ (readT z = none → ∀ H', Same H H' → E (.ref (He.ga K "Illtied")) none H')
/-- read: slots text, parts -/
def t_read (K : PySem.W.Frag) (E : XK) : TS :=
  tSeq (tAsg (tM1 rSplit (tVar 0) (tC (.str "/"))) (gName 1)) (tSeq (tIfS (tTest (tOp rNe (tCB (rLenL K) (tCons (tVar 1) tNil)) (tC (.int 3)))) (tRaise E (He.ga K "Illtied")) tNext) (tRet (tLst (tCons (tCall (sp_part_read K) [] E (tCons (tOp (rIxL K) (tVar 1) (tC (.int 0))) (tCons (tC (.bl false)) tNil))) (tCons (tCall (sp_part_read K) [] E (tCons (tOp (rIxL K) (tVar 1) (tC (.int 1))) (tCons (tC (.bl false)) tNil))) (tCons (tCall (sp_part_read K) [] E (tCons (tOp (rIxL K) (tVar 1) (tC (.int 2))) (tCons (tC (.bl true)) tNil))) tNil))))))
abbrev n_read : List Str := ["text", "parts"]

theorem len_read {K : PySem.W.Frag} {vs : List V} {H : Hp} {Q : VK} {E : XK} (h : sp_read K vs H Q E) : vs.length = (["text"] : List Str).length := by
  obtain ⟨_, rfl, _⟩ := h
  rfl
theorem readT_three {z a b c : Str} (e : Txt.split z "/" = [a, b, c]) : readT z = (match readP a false with
    | none => none
    | some x => (match readP b false with
      | none => none
      | some y => (match readP c true with
        | none => none
        | some w => some [x, y, w]))) := by
  unfold readT
  rw [e]
theorem not3 {l : List Str} (h : ¬ ((l.map V.str).length : Int) = 3) : ∀ a b c : Str, l ≠ [a, b, c] := by
  rintro a b c rfl
  exact h rfl
theorem is3 {l : List Str} (h : ((l.map V.str).length : Int) = 3) : ∃ a b c : Str, l = [a, b, c] := by
  rw [List.length_map] at h
  exact three (by omega)
theorem pure_read (K : PySem.W.Frag) (vs : List V) (H : Hp) (Q : VK) (E : XK) (h : sp_read K vs H Q E) : t_read K E { nx := fun _ H' => Q .non H', rt := Q } (start n_read vs) H := by
  obtain ⟨z, rfl, hz, q, qe⟩ := h
  unfold t_read
  walk_at "go"
  refine ⟨⟨z, rfl⟩, ?_⟩
  walk_at "go"
  refine ⟨z, "/", rfl, rfl, by decide +kernel, sz_of (by omega), fun p hp => ?_⟩
  walk_at "go"
  refine g_lenL (SqL.of upd_same) ?_
  walk_at "go"
  have s1 : Same H (upd H p (.lst ((Txt.split z "/").map V.str))) := same_new hp
  have h1 : (upd H p (.lst ((Txt.split z "/").map V.str))) p = some (.lst ((Txt.split z "/").map V.str)) := upd_same
  obtain ⟨H1, e1⟩ : ∃ H1, H1 = upd H p (.lst ((Txt.split z "/").map V.str)) := ⟨_, rfl⟩
  rw [← e1] at s1 h1 ⊢
  refine g_iteN (fun h3 => ?_) (fun h3 => ?_)
  · walk_at "go"
    refine qe ?_ _ s1
    unfold readT
    split
    · rename_i a b c e
      exact absurd e (not3 h3 a b c)
    · rfl
  · obtain ⟨a, b, c, e3⟩ := is3 h3
    rw [e3] at h1
    have eT : readT z = (match readP a false with
      | none => none
      | some x => (match readP b false with
        | none => none
        | some y => (match readP c true with
          | none => none
          | some w => some [x, y, w]))) := by
      unfold readT
      rw [e3]
    walk_at "go"
    refine g_ixL (SqL.of h1) (show atI ([a, b, c].map V.str) 0 = some (.str a) from rfl) ?_
    walk_at "go"
    refine ⟨a, false, rfl, fun x hx => ?_, fun hx => qe (by rw [eT, hx]) _ s1⟩
    walk_at "go"
    refine g_ixL (SqL.of h1) (show atI ([a, b, c].map V.str) 1 = some (.str b) from rfl) ?_
    walk_at "go"
    refine ⟨b, false, rfl, fun y hy => ?_, fun hy => qe (by rw [eT, hx, hy]) _ s1⟩
    walk_at "go"
    refine g_ixL (SqL.of h1) (show atI ([a, b, c].map V.str) 2 = some (.str c) from rfl) ?_
    walk_at "go"
    refine ⟨c, true, rfl, fun w hw => ?_, fun hw => qe (by rw [eT, hx, hy, hw]) _ s1⟩
    walk_at "go"
    intro r hr
    exact q [x, y, w] (by rw [eT, hx, hy, hw]) r _ (s1.free hr) (same_add s1 hr) upd_same
end Cor

/-! ## L05 -/
/-! ### law k05 -/
namespace Cor
open PySem PySem.Spec PyProof.Rows L2
theorem cut_len (z : Str) (lo hi : Option Int) : (cutS z lo hi).length ≤ z.length := by
  show (((z.cps.toList.drop _).take _).toArray).size ≤ z.cps.size
  rw [List.size_toArray, List.length_take, List.length_drop, Array.length_toList]
  omega
def sp_law_sign_by (K : PySem.W.Frag) : Sp := fun vs H Q _ => ∃ c, vs = [.int c] ∧ ∀ z, z.length = 1 → Q (.str z) H
/-- _law_sign_by: slots cell, some -/
def t_law_sign_by (K : PySem.W.Frag) (E : XK) : TS :=
  tSeq (tAsg (tC (.str " !\"#$&'()*+,-./0123456789:;<=>?@ABCDEFGHIJKLMNOPQRSTUVWXYZ[\\]^_`")) (gName 1)) (tSeq (tAsg (tOp rAddS (tVar 1) (tC (.str "abcdefghijklmnopqrstuvwxyz{|}~"))) (gName 1)) (tRet (tOp rIxS (tVar 1) (tOp rModI (tVar 0) (tC (.int 94))))))
abbrev n_law_sign_by : List Str := ["cell", "some"]

theorem len_law_sign_by {K : PySem.W.Frag} {vs : List V} {H : Hp} {Q : VK} {E : XK} (h : sp_law_sign_by K vs H Q E) : vs.length = (["cell"] : List Str).length := by
  obtain ⟨_, rfl, _⟩ := h
  rfl
theorem pure_law_sign_by (K : PySem.W.Frag) (vs : List V) (H : Hp) (Q : VK) (E : XK) (h : sp_law_sign_by K vs H Q E) : t_law_sign_by K E { nx := fun _ H' => Q .non H', rt := Q } (start n_law_sign_by vs) H := by
  obtain ⟨c, rfl, q⟩ := h
  unfold t_law_sign_by
  walk_at "go"
  refine g_addS (by decide +kernel) ?_
  obtain ⟨z, hz⟩ : ∃ z, z = (" !\"#$&'()*+,-./0123456789:;<=>?@ABCDEFGHIJKLMNOPQRSTUVWXYZ[\\]^_`" : Str) ++ ("abcdefghijklmnopqrstuvwxyz{|}~" : Str) := ⟨_, rfl⟩
  have hl : z.length = 94 := by rw [hz]; decide +kernel
  rw [← hz]
  walk_at "go"
  have hl2 : z.cps.toList.length = 94 := by rw [Array.length_toList]; exact hl
  obtain ⟨d, hd, _⟩ := atI_in (xs := z.cps.toList) (k := c % 94) (by omega) (by omega)
  refine g_ixS (by omega) hd ?_
  exact q _ rfl
def sp_law_piece (K : PySem.W.Frag) : Sp := fun vs H Q _ => ∃ c, vs = [.int c] ∧ ∀ z H', z.length ≤ 11 → Same H H' → Q (.str z) H'
/-- _law_piece: slots cell, odd, way -/
def t_law_piece (K : PySem.W.Frag) (E : XK) : TS :=
  tSeq (tAsg (tLst (tCons (tC (.str "e")) (tCons (tC (.str "ee")) (tCons (tC (.str "l0")) (tCons (tC (.str "l1")) (tCons (tC (.str "l10")) (tCons (tC (.str "l")) (tCons (tC (.str "2")) (tCons (tC (.str "oe")) (tCons (tC (.str "eo")) (tCons (tC (.str "ol3")) (tCons (tC (.str "O")) (tCons (tC (.str "E")) (tCons (tC (.str "L4")) (tCons (tC (.str "??")) (tCons (tC (.str "o?")) (tCons (tC (.str " ")) (tCons (tC (.str " o")) tNil)))))))))))))))))) (gName 1)) (tSeq (tAsg (tOp rCat (tVar 1) (tLst (tCons (tC (.str "o ")) (tCons (tC (.str "l 3")) (tCons (tC (.str "ooooooooooo")) tNil))))) (gName 1)) (tSeq (tAsg (tOp rModI (tVar 0) (tC (.int 5))) (gName 2)) (tSeq (tIfS (tTest (tOp rEq (tVar 2) (tC (.int 0)))) (tRet (tOp (rIxL K) (tVar 1) (tOp rModI (tOp rDivI (tVar 0) (tC (.int 5))) (tC (.int 20))))) tNext) (tSeq (tIfS (tTest (tOp rEq (tVar 2) (tC (.int 1)))) (tRet (tC (.str "?"))) tNext) (tSeq (tIfS (tTest (tOp rEq (tVar 2) (tC (.int 2)))) (tRet (tCall (sp_law_part K) [] E0 (tCons (tOp rModI (tOp rDivI (tVar 0) (tC (.int 5))) (tC (.int 10))) (tCons (tC (.bl true)) tNil)))) tNext) (tRet (tSl rSlS (tC (.str "oooooooooo")) tNoPart (tPart (tOp rModI (tOp rDivI (tVar 0) (tC (.int 5))) (tC (.int 11)))))))))))
abbrev n_law_piece : List Str := ["cell", "odd", "way"]

theorem len_law_piece {K : PySem.W.Frag} {vs : List V} {H : Hp} {Q : VK} {E : XK} (h : sp_law_piece K vs H Q E) : vs.length = (["cell"] : List Str).length := by
  obtain ⟨_, rfl, _⟩ := h
  rfl
theorem pure_law_piece (K : PySem.W.Frag) (vs : List V) (H : Hp) (Q : VK) (E : XK) (h : sp_law_piece K vs H Q E) : t_law_piece K E { nx := fun _ H' => Q .non H', rt := Q } (start n_law_piece vs) H := by
  obtain ⟨c, rfl, q⟩ := h
  unfold t_law_piece
  walk_at "go"
  intro p hp
  walk_at "go"
  intro r hr
  have npr : p ≠ r := ne_of_none upd_same hr
  refine g_cat (by rw [upd_ne npr]; exact upd_same) upd_same (by decide) fun u hu => ?_
  obtain ⟨tab, htab⟩ : ∃ tab : List Str, tab = ([("e" : Str), "ee", "l0", "l1", "l10", "l", "2", "oe", "eo", "ol3", "O", "E", "L4", "??", "o?", " ", " o", "o ", "l 3", "ooooooooooo"] : List Str) := ⟨_, rfl⟩
  have ht : ∀ z ∈ tab, z.length ≤ 11 := fun z hz => of_decide_eq_true (List.all_eq_true.mp (show (tab.all fun z => decide (z.length ≤ 11)) = true by rw [htab]; decide +kernel) z hz)
  have hl : (tab.map V.str).length = 20 := by rw [htab] <;> rfl
  have key : ∀ H1, Same H H1 → H1 u = some (.lst (tab.map V.str)) → tSeq (tAsg (tOp rModI (tVar 0) (tC (.int 5))) (gName 2)) (tSeq (tIfS (tTest (tOp rEq (tVar 2) (tC (.int 0)))) (tRet (tOp (rIxL K) (tVar 1) (tOp rModI (tOp rDivI (tVar 0) (tC (.int 5))) (tC (.int 20))))) tNext) (tSeq (tIfS (tTest (tOp rEq (tVar 2) (tC (.int 1)))) (tRet (tC (.str "?"))) tNext) (tSeq (tIfS (tTest (tOp rEq (tVar 2) (tC (.int 2)))) (tRet (tCall (sp_law_part K) [] E0 (tCons (tOp rModI (tOp rDivI (tVar 0) (tC (.int 5))) (tC (.int 10))) (tCons (tC (.bl true)) tNil)))) tNext) (tRet (tSl rSlS (tC (.str "oooooooooo")) tNoPart (tPart (tOp rModI (tOp rDivI (tVar 0) (tC (.int 5))) (tC (.int 11)))))))))
      { nx := fun _ H' => Q .non H', rt := Q } [some (.int c), some (.ref u), none] H1 := by
    intro H1 s h1
    walk_at "go"
    refine g_iteD (fun _ => ?_) (fun _ => ?_)
    · walk_at "go"
      obtain ⟨v, hv, hm⟩ := atI_in (xs := tab.map V.str) (k := c / 5 % 20) (by omega) (by rw [hl]; omega)
      obtain ⟨z, hz, rfl⟩ := List.mem_map.mp hm
      refine g_ixL (SqL.of h1) hv ?_
      exact q z _ (ht z hz) s
    · walk_at "go"
      refine g_iteD (fun _ => ?_) (fun _ => ?_)
      · walk_at "go"
        exact q _ _ (by decide +kernel) s
      · walk_at "go"
        refine g_iteD (fun _ => ?_) (fun _ => ?_)
        · walk_at "go"
          refine ⟨some (c / 5 % 10), true, rfl, fun i hi => ?_, fun H2 s2 => q _ _ (Nat.le_trans (part_len _ _) (by decide)) (s.trans s2)⟩
          have ei : c / 5 % 10 = i := Option.some.inj hi
          omega
        · walk_at "go"
          refine g_slS (show ("oooooooooo" : Str).length ≤ 100000 by decide +kernel) ?_
          exact q _ _ (Nat.le_trans (cut_len _ _ _) (by decide +kernel)) s
  refine key _ (same_add (same_add (same_new hp) hr) hu) ?_
  rw [htab]
  exact upd_same
def figF (z : Str) (u : Bool) : Int := (findF z u 10 0).getD (-1)
def sp_law_figure (K : PySem.W.Frag) : Sp := fun vs H Q _ => ∃ z u, vs = [.str z, .bl u] ∧ ∀ H', Same H H' → Q (.int (figF z u)) H'
/-- _law_figure: slots part, units, figure -/
def t_law_figure (K : PySem.W.Frag) (E : XK) : TS :=
  tSeq (tFor (iRng1 (tCons (tC (.int 10)) tNil)) (gName 2) (tIfS (tTest (tOp rEq (tVar 0) (tCall (sp_law_part K) [] E0 (tCons (tVar 2) (tCons (tVar 1) tNil))))) (tRet (tVar 2)) tNext)) (tRet (tUn rNegI (tC (.int 1))))
abbrev n_law_figure : List Str := ["part", "units", "figure"]

theorem len_law_figure {K : PySem.W.Frag} {vs : List V} {H : Hp} {Q : VK} {E : XK} (h : sp_law_figure K vs H Q E) : vs.length = (["part", "units"] : List Str).length := by
  obtain ⟨_, _, rfl, _⟩ := h
  rfl
theorem pure_law_figure (K : PySem.W.Frag) (vs : List V) (H : Hp) (Q : VK) (E : XK) (h : sp_law_figure K vs H Q E) : t_law_figure K E { nx := fun _ H' => Q .non H', rt := Q } (start n_law_figure vs) H := by
  obtain ⟨z, u, rfl, q⟩ := h
  unfold t_law_figure
  walk_at "go"
  refine g_forR1 ?_
  walk_at "go"
  refine rng1_of (by decide) (by decide) ?_
  have run : ∀ (n : Nat) (k : Int) (w : Option V) (H1 : Hp), Same H H1 → 0 ≤ k → k + n ≤ 10 → (∀ H', Same H H' → Q (.int ((findF z u n k).getD (-1))) H') →
      forRng (gName 2) (tIfS (tTest (tOp rEq (tVar 0) (tCall (sp_law_part K) [] E0 (tCons (tVar 2) (tCons (tVar 1) tNil))))) (tRet (tVar 2)) tNext)
        { nx := tRet (tUn rNegI (tC (.int 1))) { nx := fun _ H' => Q .non H', rt := Q }, rt := Q } n k [some (.str z), some (.bl u), w] H1 := by
    intro n
    induction n with
    | zero =>
      intro k w H1 s h1 h2 a
      walk_at "go"
      exact a _ s
    | succ n ih =>
      intro k w H1 s h1 h2 a
      walk_at "go"
      refine ⟨some k, u, rfl, fun i hi => ?_, fun H2 s2 => ?_⟩
      · have ei : k = i := Option.some.inj hi
        omega
      walk_at "go"
      refine g_iteD (fun h => ?_) (fun h => ?_)
      · walk_at "go"
        have e1 : findF z u (n + 1) k = some k := if_pos h
        rw [e1] at a
        exact a _ (s.trans s2)
      · walk_at "go"
        have e1 : findF z u (n + 1) k = findF z u n (k + 1) := if_neg h
        rw [e1] at a
        exact ih (k + 1) _ _ (s.trans s2) (by omega) (by omega) a
  exact run 10 0 _ H (Same.refl _) (by decide) (by decide) q
/-- the laws' knot of a part: -1 where there is none -/
def knF (z : Str) (u : Bool) : Option Int := if z = "?" then none else some (figF z u)
theorem findF_ge (z : Str) (u : Bool) : ∀ (n : Nat) (k f : Int), 0 ≤ k → findF z u n k = some f → 0 ≤ f := by
  intro n
  induction n with
  | zero => intro k f _ h; cases h
  | succ n ih =>
    intro k f hk h
    unfold findF at h
    split at h
    · cases h; exact hk
    · exact ih _ _ (by omega) h
theorem knF_some {z : Str} {u : Bool} {f : Option Int} (h : readP z u = some f) : knF z u = f ∧ knF z u ≠ some (-1) := by
  unfold readP at h
  unfold knF
  split at h
  · rename_i e
    cases h
    rw [if_pos e]
    exact ⟨rfl, by simp⟩
  · rename_i e
    rw [if_neg e]
    unfold figF
    cases q : findF z u 10 0 with
    | none => rw [q] at h; cases h
    | some g =>
      rw [q] at h
      cases h
      have := findF_ge z u 10 0 g (by decide) q
      refine ⟨rfl, fun z => ?_⟩
      have : g = -1 := Option.some.inj z
      omega
theorem knF_none {z : Str} {u : Bool} (h : readP z u = none) : knF z u = some (-1) := by
  unfold readP at h
  unfold knF
  split at h
  · cases h
  · rename_i e
    rw [if_neg e]
    unfold figF
    cases q : findF z u 10 0 with
    | none => rfl
    | some g => rw [q] at h; cases h
def sp_law_due (K : PySem.W.Frag) : Sp := fun vs H Q _ => ∃ z, vs = [.str z] ∧ z.length ≤ 10000 ∧
  (∀ kn, readT z = some kn → ∀ p H', Same H H' → H' p = some (.lst (kn.map oV)) → Q (.ref p) H') ∧ (readT z = none → ∀ H', Same H H' → Q .non H')
/-- _law_due: slots line, parts, knots, k -/
def t_law_due (K : PySem.W.Frag) (E : XK) : TS :=
  tSeq (tAsg (tM1 rSplit (tVar 0) (tC (.str "/"))) (gName 1)) (tSeq (tIfS (tTest (tOp rNe (tCB (rLenL K) (tCons (tVar 1) tNil)) (tC (.int 3)))) (tRet (tC .non)) tNext) (tSeq (tAsg (tLst tNil) (gName 2)) (tSeq (tFor (iRng1 (tCons (tC (.int 3)) tNil)) (gName 3) (tIfS (tTest (tOp rEq (tOp (rIxL K) (tVar 1) (tVar 3)) (tC (.str "?")))) (tDrop (tBM K "list" rAppend (tVar 2) (tCons (tC .non) tNil))) (tDrop (tBM K "list" rAppend (tVar 2) (tCons (tCall (sp_law_figure K) [] E0 (tCons (tOp (rIxL K) (tVar 1) (tVar 3)) (tCons (tOp rEq (tVar 3) (tC (.int 2))) tNil))) tNil))))) (tSeq (tIfS (tTest (tOp (rIn K false) (tUn rNegI (tC (.int 1))) (tVar 2))) (tRet (tC .non)) tNext) (tRet (tVar 2))))))
abbrev n_law_due : List Str := ["line", "parts", "knots", "k"]

theorem len_law_due {K : PySem.W.Frag} {vs : List V} {H : Hp} {Q : VK} {E : XK} (h : sp_law_due K vs H Q E) : vs.length = (["line"] : List Str).length := by
  obtain ⟨_, rfl, _⟩ := h
  rfl
theorem pure_law_due (K : PySem.W.Frag) (vs : List V) (H : Hp) (Q : VK) (E : XK) (h : sp_law_due K vs H Q E) : t_law_due K E { nx := fun _ H' => Q .non H', rt := Q } (start n_law_due vs) H := by
  obtain ⟨z, rfl, hz, q, qn⟩ := h
  unfold t_law_due
  walk_at "go"
  refine ⟨⟨z, rfl⟩, ?_⟩
  walk_at "go"
  refine ⟨z, "/", rfl, rfl, by decide +kernel, sz_of (by omega), fun p hp => ?_⟩
  walk_at "go"
  refine g_lenL (SqL.of upd_same) ?_
  walk_at "go"
  have s1 : Same H (upd H p (.lst ((Txt.split z "/").map V.str))) := same_new hp
  have h1 : (upd H p (.lst ((Txt.split z "/").map V.str))) p = some (.lst ((Txt.split z "/").map V.str)) := upd_same
  obtain ⟨H1, e1⟩ : ∃ H1, H1 = upd H p (.lst ((Txt.split z "/").map V.str)) := ⟨_, rfl⟩
  rw [← e1] at s1 h1 ⊢
  clear e1
  refine g_iteN (fun h3 => ?_) (fun h3 => ?_)
  · walk_at "go"
    refine qn ?_ _ s1
    unfold readT
    split
    · rename_i a b c e
      exact absurd e (not3 h3 a b c)
    · rfl
  · obtain ⟨a, b, c, e3⟩ := is3 h3
    rw [e3] at h1
    have eT := readT_three e3
    walk_at "go"
    intro r hr
    have s2 := same_add (o := .lst []) s1 hr
    have p2 := same_new (o := .lst []) hr _ _ h1
    have fr : H r = none := s1.free hr
    walk_at "go"
    refine g_forR1 ?_
    walk_at "go"
    refine rng1_of (by decide) (by decide) ?_
    have npr : p ≠ r := ne_of_none h1 hr
    have turn : ∀ (rt : VK) (bk : L2.St → Hp → Prop) (x : Str) (k : Int) (w : Option V) (nxt : L2.St → Hp → Prop) (acc : List V) (H2 : Hp), atI ([a, b, c].map V.str) k = some (.str x) → acc.length ≤ 3 → Same H1 H2 → H2 r = some (.lst acc) →
        (∀ H3, Same H1 H3 → H3 r = some (.lst (acc ++ [oV (knF x (decide (k = 2)))])) → nxt [some (.str z), some (.ref p), some (.ref r), some (.int k)] H3) →
        gName 3 (.int k) [some (.str z), some (.ref p), some (.ref r), w] H2 fun σ2 H2 =>
          tIfS (tTest (tOp rEq (tOp (rIxL K) (tVar 1) (tVar 3)) (tC (.str "?")))) (tDrop (tBM K "list" rAppend (tVar 2) (tCons (tC .non) tNil))) (tDrop (tBM K "list" rAppend (tVar 2) (tCons (tCall (sp_law_figure K) [] E0 (tCons (tOp (rIxL K) (tVar 1) (tVar 3)) (tCons (tOp rEq (tVar 3) (tC (.int 2))) tNil))) tNil))) { nx := nxt, rt := rt, bk := bk, ct := nxt } σ2 H2 := by
      intro rt bk x k w nxt acc H2 e ha s hr2 hn
      walk_at "go"
      refine g_ixL (SqL.of (s _ _ h1)) e ?_
      walk_at "go"
      refine g_iteD (fun h => ?_) (fun h => ?_)
      · have ek : knF x (decide (k = 2)) = none := if_pos h
        rw [ek] at hn
        walk_at "go"
        refine ⟨ty_list (SqL.of hr2), ?_⟩
        walk_at "go"
        exact g_append hr2 (sz_lt (by omega)) (hn _ (same_mut s hr) upd_same)
      · have ek : knF x (decide (k = 2)) = some (figF x (decide (k = 2))) := if_neg h
        rw [ek] at hn
        walk_at "go"
        refine ⟨ty_list (SqL.of hr2), ?_⟩
        walk_at "go"
        refine g_ixL (SqL.of (s _ _ h1)) e ?_
        walk_at "go"
        refine ⟨x, decide (k = 2), rfl, fun H3 s3 => ?_⟩
        walk_at "go"
        exact g_append (s3 _ _ hr2) (sz_lt (by omega)) (hn _ (same_mut (s.trans s3) hr) upd_same)
    refine turn _ _ a 0 _ _ [] _ rfl (by decide) (same_new hr) upd_same fun H2 t2 r2 => ?_
    refine turn _ _ b 1 _ _ [oV (knF a false)] _ rfl (by simp) t2 r2 fun H3 t3 r3 => ?_
    refine turn _ _ c 2 _ _ [oV (knF a false), oV (knF b false)] _ rfl (by simp) t3 r3 fun H4 t4 r4 => ?_
    have r5 : H4 r = some (.lst ([knF a false, knF b false, knF c true].map oV)) := r4
    walk_at "go"
    refine g_in (SqL.of r5) rfl (flat_oV _) ?_
    walk_at "go"
    rw [in_oV]
    refine g_iteD (fun h => ?_) (fun h => ?_)
    · walk_at "go"
      refine qn ?_ _ (s1.trans t4)
      rw [eT]
      cases ha : readP a false with
      | none => rfl
      | some x =>
        cases hb : readP b false with
        | none => rfl
        | some y =>
          cases hc : readP c true with
          | none => rfl
          | some w =>
            simp only [List.mem_cons, List.mem_nil_iff, or_false] at h
            rcases h with h | h | h
            · exact absurd h.symm (knF_some ha).2
            · exact absurd h.symm (knF_some hb).2
            · exact absurd h.symm (knF_some hc).2
    · walk_at "go"
      simp only [List.mem_cons, List.mem_nil_iff, or_false, not_or] at h
      obtain ⟨na, nb, nc⟩ := h
      refine q _ ?_ r H4 (s1.trans t4) r5
      rw [eT]
      cases ha : readP a false with
      | none => exact absurd (knF_none ha).symm na
      | some x =>
        cases hb : readP b false with
        | none => exact absurd (knF_none hb).symm nb
        | some y =>
          cases hc : readP c true with
          | none => exact absurd (knF_none hc).symm nc
          | some w =>
            rw [(knF_some ha).1, (knF_some hb).1, (knF_some hc).1]
def sp_law_refused (K : PySem.W.Frag) : Sp := fun vs H Q _ => ∃ z, vs = [.str z] ∧ z.length ≤ 10000 ∧ readT z = none ∧ ∀ H', Same H H' → Q (.bl true) H'
/-- _law_refused: slots line, e -/
def t_law_refused (K : PySem.W.Frag) (E : XK) : TS :=
  tSeq (tTryA K (Value.ref (He.ga K "Illtied")) 1 (fun W => tDrop (tCallS (sp_read K) (WE W) (tCons (tVar 0) tNil))) (fun a cls d => tSeq (tIfS (tOr (tB (tCB (rIsX K cls d a) (tCons (tVar 1) (tCons (tC (.ref (He.ga K "NoCord"))) tNil)))) (tOr (tB (tCB (rIsX K cls d a) (tCons (tVar 1) (tCons (tC (.ref (He.ga K "Taken"))) tNil)))) (tB (tCB (rIsX K cls d a) (tCons (tVar 1) (tCons (tC (.ref (He.ga K "Frayed"))) tNil)))))) (tRet (tC (.bl false))) tNext) (tRet (tAndV (tCB (rIsX K cls d a) (tCons (tVar 1) (tCons (tC (.ref (He.ga K "CordError"))) tNil))) (tCB (rIsX K cls d a) (tCons (tVar 1) (tCons (tC (.ty "ValueError")) tNil))))))) (tRet (tC (.bl false)))
abbrev n_law_refused : List Str := ["line", "e"]

theorem len_law_refused {K : PySem.W.Frag} {vs : List V} {H : Hp} {Q : VK} {E : XK} (h : sp_law_refused K vs H Q E) : vs.length = (["line"] : List Str).length := by
  obtain ⟨_, rfl, _⟩ := h
  rfl
theorem pure_law_refused (K : PySem.W.Frag) (x1 : Exm K "Illtied" "Illtied" true) (c : ExcC K (He.ga K "Illtied")) (k1 : Kit K "Illtied" "NoCord" false) (k2 : Kit K "Illtied" "Taken" false) (k3 : Kit K "Illtied" "Frayed" false) (k4 : Kit K "Illtied" "CordError" true) (k5 : KitT K "Illtied" "ValueError" true)
    (vs : List V) (H : Hp) (Q : VK) (E : XK) (h : sp_law_refused K vs H Q E) : t_law_refused K E { nx := fun _ H' => Q .non H', rt := Q } (start n_law_refused vs) H := by
  obtain ⟨z, rfl, hz, hT, q⟩ := h
  unfold t_law_refused
  walk_at "go"
  refine ⟨z, rfl, hz, fun kn e => by (rw [hT] at e; cases e), fun _ H1 s1 => ?_⟩
  refine was_yes x1 fun a ha => ?_
  walk_at "go"
  refine g_isX c k1 ?_
  walk_at "go"
  refine g_isX c k2 ?_
  walk_at "go"
  refine g_isX c k3 ?_
  walk_at "go"
  refine g_isX c k4 ?_
  walk_at "go"
  refine g_isXT c k5 ?_
  exact q _ s1
def sp_law_by_base (K : PySem.W.Frag) : Sp := fun vs H Q _ => ∃ z, vs = [.str z] ∧ z.length ≤ 10000 ∧ readT z = none ∧ ∀ H', Same H H' → Q (.bl true) H'
/-- _law_by_base: slots line, e -/
def t_law_by_base (K : PySem.W.Frag) (E : XK) : TS :=
  tSeq (tTryA K (Value.ref (He.ga K "CordError")) 1 (fun W => tDrop (tCallS (sp_read K) (WE W) (tCons (tVar 0) tNil))) (fun a cls d => tRet (tAndV (tNotV (tCB (rIsX K cls d a) (tCons (tVar 1) (tCons (tC (.ref (He.ga K "NoWay"))) tNil)))) (tNotV (tCB (rIsX K cls d a) (tCons (tVar 1) (tCons (tC (.ref (He.ga K "Nothing"))) tNil))))))) (tRet (tC (.bl false)))
abbrev n_law_by_base : List Str := ["line", "e"]

theorem len_law_by_base {K : PySem.W.Frag} {vs : List V} {H : Hp} {Q : VK} {E : XK} (h : sp_law_by_base K vs H Q E) : vs.length = (["line"] : List Str).length := by
  obtain ⟨_, rfl, _⟩ := h
  rfl
theorem pure_law_by_base (K : PySem.W.Frag) (x1 : Exm K "Illtied" "CordError" true) (c : ExcC K (He.ga K "Illtied")) (k1 : Kit K "Illtied" "NoWay" false) (k2 : Kit K "Illtied" "Nothing" false)
    (vs : List V) (H : Hp) (Q : VK) (E : XK) (h : sp_law_by_base K vs H Q E) : t_law_by_base K E { nx := fun _ H' => Q .non H', rt := Q } (start n_law_by_base vs) H := by
  obtain ⟨z, rfl, hz, hT, q⟩ := h
  unfold t_law_by_base
  walk_at "go"
  refine ⟨z, rfl, hz, fun kn e => by (rw [hT] at e; cases e), fun _ H1 s1 => ?_⟩
  refine was_yes x1 fun a ha => ?_
  walk_at "go"
  refine g_isX c k1 ?_
  walk_at "go"
  refine g_isX c k2 ?_
  walk_at "go"
  exact q _ s1
def sp_law (K : PySem.W.Frag) : Sp := fun vs H Q _ => ∃ (a : Addr) (ns : List Int), vs = [.ref a] ∧ SqL K H a (ns.map V.int) ∧ ns.length ≤ 63 ∧ ∀ H', Q (.bl true) H'
/-- law: slots script, count, line, k, at, due -/
def t_law (K : PySem.W.Frag) (E : XK) : TS :=
  tSeq (tAsg (tOp (rIxL K) (tLst (tCons (tC (.int 3)) (tCons (tC (.int 3)) (tCons (tC (.int 3)) (tCons (tC (.int 2)) (tCons (tC (.int 4)) (tCons (tC (.int 5)) tNil))))))) (tOp rModI (tCall (sp_law_cell_at K) [] E0 (tCons (tVar 0) (tCons (tC (.int 0)) tNil))) (tC (.int 6)))) (gName 1)) (tSeq (tAsg (tM1 (rJoin K) (tC (.str "/")) (tLc (iRng1 (tCons (tVar 1) tNil)) (gName 3) tYes (tCall (sp_law_piece K) [] E0 (tCons (tCall (sp_law_cell_at K) [] E0 (tCons (tVar 0) (tCons (tOp rAddI (tC (.int 1)) (tVar 3)) tNil))) tNil)) [3])) (gName 2)) (tSeq (tIfS (tTest (tOp rEq (tOp rModI (tOp rDivI (tCall (sp_law_cell_at K) [] E0 (tCons (tVar 0) (tCons (tC (.int 0)) tNil))) (tC (.int 6))) (tC (.int 4))) (tC (.int 1)))) (tSeq (tAsg (tOp rModI (tCall (sp_law_cell_at K) [] E0 (tCons (tVar 0) (tCons (tC (.int 6)) tNil))) (tOp rAddI (tCB rLenT (tCons (tVar 2) tNil)) (tC (.int 1)))) (gName 4)) (tAsg (tOp rAddS (tOp rAddS (tSl rSlS (tVar 2) tNoPart (tPart (tVar 4))) (tCall (sp_law_sign_by K) [] E0 (tCons (tCall (sp_law_cell_at K) [] E0 (tCons (tVar 0) (tCons (tC (.int 7)) tNil))) tNil))) (tSl rSlS (tVar 2) (tPart (tVar 4)) tNoPart)) (gName 2))) tNext) (tSeq (tAsg (tCall (sp_law_due K) [] E0 (tCons (tVar 2) tNil)) (gName 5)) (tSeq (tIfS (tTest (tOp rIsN (tVar 5) (tC .non))) (tRet (tAndV (tCall (sp_law_refused K) [] E0 (tCons (tVar 2) tNil)) (tCall (sp_law_by_base K) [] E0 (tCons (tVar 2) tNil)))) tNext) (tRet (tCall (sp_law_knots K) [] E0 (tCons (tCall (sp_read K) [] E0 (tCons (tVar 2) tNil)) (tCons (tVar 5) tNil))))))))
abbrev n_law : List Str := ["script", "count", "line", "k", "at", "due"]

theorem len_law {K : PySem.W.Frag} {vs : List V} {H : Hp} {Q : VK} {E : XK} (h : sp_law K vs H Q E) : vs.length = (["script"] : List Str).length := by
  obtain ⟨_, _, rfl, _⟩ := h
  rfl
theorem readT_len {z : Str} {kn : List (Option Int)} (h : readT z = some kn) : kn.length = 3 := by
  unfold readT at h
  split at h
  · split at h
    · cases h
    · split at h
      · cases h
      · split at h
        · cases h
        · cases h; rfl
  · cases h
theorem join_len (l : List Str) (h : ∀ z ∈ l, z.length ≤ 11) : (l.map (·.length)).sum ≤ 11 * l.length := by
  induction l with
  | nil => exact Nat.le_refl _
  | cons z r ih =>
    have h1 := h z List.mem_cons_self
    have h2 := ih fun y hy => h y (List.mem_cons_of_mem _ hy)
    rw [List.map_cons, List.sum_cons, List.length_cons]
    omega
theorem pure_law (K : PySem.W.Frag) (vs : List V) (H : Hp) (Q : VK) (E : XK) (h : sp_law K vs H Q E) : t_law K E { nx := fun _ H' => Q .non H', rt := Q } (start n_law vs) H := by
  obtain ⟨a, ns, rfl, hS, hl, q⟩ := h
  -- behind the line
  have fin : ∀ (z : Str) (w1 w3 w4 : Option V) (H1 : Hp), z.length ≤ 10000 → tSeq (tAsg (tCall (sp_law_due K) [] E0 (tCons (tVar 2) tNil)) (gName 5)) (tSeq (tIfS (tTest (tOp rIsN (tVar 5) (tC .non))) (tRet (tAndV (tCall (sp_law_refused K) [] E0 (tCons (tVar 2) tNil)) (tCall (sp_law_by_base K) [] E0 (tCons (tVar 2) tNil)))) tNext) (tRet (tCall (sp_law_knots K) [] E0 (tCons (tCall (sp_read K) [] E0 (tCons (tVar 2) tNil)) (tCons (tVar 5) tNil)))))
      { nx := fun _ H' => Q .non H', rt := Q } [some (.ref a), w1, some (.str z), w3, w4, none] H1 := by
    intro z w1 w3 w4 H1 hz
    walk_at "go"
    refine ⟨z, rfl, hz, fun kn hT p H2 s2 h2 => ?_, fun hT H2 s2 => ?_⟩
    · walk_at "go"
      refine ⟨z, rfl, hz, fun kn' e r H3 hr s3 h4 => ?_, fun e => by (rw [hT] at e; cases e)⟩
      rw [hT] at e
      cases e
      walk_at "go"
      exact ⟨r, p, kn, rfl, h4, SqL.of (s3 _ _ h2), readT_len hT, q _⟩
    · walk_at "go"
      refine ⟨z, rfl, hz, hT, fun H3 s3 => ?_⟩
      walk_at "go"
      refine ⟨z, rfl, hz, hT, fun H4 s4 => ?_⟩
      exact q _
  unfold t_law
  walk_at "go"
  intro p hp
  walk_at "go"
  have s1 := same_new (o := .lst [V.int 3, V.int 3, V.int 3, V.int 2, V.int 4, V.int 5]) hp
  refine ⟨a, ns, 0, rfl, s1.seq hS, by decide, ?_⟩
  walk_at "go"
  have hcnt : ∃ n : Int, atI [V.int 3, V.int 3, V.int 3, V.int 2, V.int 4, V.int 5] (cell ns 0 % 6) = some (.int n) ∧ 0 ≤ n ∧ n ≤ 5 := by
    have b0 : 0 ≤ cell ns 0 % 6 := by omega
    have b1 : cell ns 0 % 6 < 6 := by omega
    obtain ⟨i, hi⟩ : ∃ i, i = cell ns 0 % 6 := ⟨_, rfl⟩
    rw [← hi] at b0 b1 ⊢
    have : i = 0 ∨ i = 1 ∨ i = 2 ∨ i = 3 ∨ i = 4 ∨ i = 5 := by omega
    rcases this with rfl | rfl | rfl | rfl | rfl | rfl
    · exact ⟨3, rfl, by decide, by decide⟩
    · exact ⟨3, rfl, by decide, by decide⟩
    · exact ⟨3, rfl, by decide, by decide⟩
    · exact ⟨2, rfl, by decide, by decide⟩
    · exact ⟨4, rfl, by decide, by decide⟩
    · exact ⟨5, rfl, by decide, by decide⟩
  obtain ⟨n, hn, n0, n5⟩ := hcnt
  refine g_ixL (SqL.of upd_same) hn ?_
  walk_at "go"
  refine ⟨⟨"/", rfl⟩, ?_⟩
  refine g_lcR1 ?_
  walk_at "go"
  refine lcr1_of (j := n) (by omega) (by omega) fun L hL => ?_
  obtain ⟨H1, e1⟩ : ∃ H1, H1 = upd H p (.lst [V.int 3, V.int 3, V.int 3, V.int 2, V.int 4, V.int 5]) := ⟨_, rfl⟩
  rw [← e1] at s1 hL ⊢
  have hS1 := s1.seq hS
  clear e1
  -- the pieces
  have run : ∀ (m : Nat) (k : Int) (acc : List Str) (Qf : VK) (H2 : Hp), 0 ≤ k → acc.length + m ≤ 5 → (∀ z ∈ acc, z.length ≤ 11) → Same H1 H2 → H2 L = some (.lst (acc.map V.str)) →
      (∀ (acc' : List Str) H3, acc'.length ≤ 5 → (∀ z ∈ acc', z.length ≤ 11) → Same H1 H3 → H3 L = some (.lst (acc'.map V.str)) → Qf (.ref L) H3) →
      lcRng (gName 3) tYes (tCall (sp_law_piece K) [] E0 (tCons (tCall (sp_law_cell_at K) [] E0 (tCons (tVar 0) (tCons (tOp rAddI (tC (.int 1)) (tVar 3)) tNil))) tNil)) [3] [some (.ref a), some (.int n), none, none, none, none] L Qf m k H2 := by
    intro m
    induction m with
    | zero =>
      intro k acc Qf H2 hk ha hz s2 h2 hq
      exact hq acc H2 (by omega) hz s2 h2
    | succ m ih =>
      intro k acc Qf H2 hk ha hz s2 h2 hq
      walk_at "go"
      refine ⟨a, ns, 1 + k, rfl, s2.seq hS1, by omega, ?_⟩
      walk_at "go"
      refine ⟨_, rfl, fun z H3 hz3 s3 => ?_⟩
      have h3 := s3 _ _ h2
      refine ⟨acc.map V.str, h3, sz_lt (by rw [List.length_map]; omega), ?_⟩
      refine ih (k + 1) (acc ++ [z]) Qf _ (by omega) (by rw [List.length_append, List.length_singleton]; omega) (fun y hy => ?_) (same_mut (s2.trans s3) hL) ?_ hq
      · rcases List.mem_append.mp hy with hy | hy
        · exact hz y hy
        · rw [List.mem_singleton.mp hy]; exact hz3
      · rw [upd_same, List.map_append] <;> rfl
  refine run n.toNat 0 [] _ _ (by decide) (by show 0 + n.toNat ≤ 5; omega) (fun z hz => by cases hz) (same_new hL) upd_same fun acc H2 ha hz s2 h2 => ?_
  have hj := join_len acc hz
  have hs1 := slash_len
  refine ⟨"/", L, acc, rfl, rfl, Or.inl (SqL.of h2), ?_, ?_⟩
  · rw [hs1]; omega
  have hlen : (Txt.join "/" acc).length ≤ 100 := by
    rw [TL.join_eq]
    have h := StrLaws.join_length_le "/" acc
    rw [hs1] at h
    omega
  obtain ⟨line, hline⟩ : ∃ line, line = Txt.join "/" acc := ⟨_, rfl⟩
  rw [← hline] at hlen ⊢
  walk_at "go"
  refine ⟨a, ns, 0, rfl, s2.seq hS1, by decide, ?_⟩
  walk_at "go"
  refine g_iteD (fun _ => ?_) (fun _ => ?_)
  · walk_at "go"
    refine ⟨a, ns, 6, rfl, s2.seq hS1, by decide, ?_⟩
    walk_at "go"
    refine g_lenS (by omega) ?_
    walk_at "go"
    refine g_slS (by omega) ?_
    walk_at "go"
    refine ⟨a, ns, 7, rfl, s2.seq hS1, by decide, ?_⟩
    walk_at "go"
    refine ⟨_, rfl, fun z hz => ?_⟩
    have l1 := cut_len line none (some (cell ns 6 % ((line.length : Int) + 1)))
    have l2 := cut_len line (some (cell ns 6 % ((line.length : Int) + 1))) none
    refine g_addS (by omega) ?_
    walk_at "go"
    refine g_slS (by omega) ?_
    refine g_addS (by rw [Str.length_append]; omega) ?_
    refine fin _ _ _ _ _ ?_
    rw [Str.length_append, Str.length_append]
    omega
  · exact fin _ _ _ _ _ (by omega)
end Cor

/-! ### law k05: the text by places, the facts, each def over its pure part (printed by gen_law.py) -/
namespace K05
open PySem PySem.Spec PyProof.Rows L2 Cor
def top (i : Nat) : Stmt := PySem.Challenge.pw_cordkeep_k05_texts_refused.main.body.getD i (.Pass ⟨0, 0, 0, 0⟩)
abbrev s_part_shown : Stmt := top 9
abbrev s_part_read : Stmt := top 10
abbrev s_read : Stmt := top 11
abbrev s_law_by_base : Stmt := top 24
abbrev s_law_cell_at : Stmt := top 13
abbrev s_law_part : Stmt := top 17
abbrev s_law_figure : Stmt := top 21
abbrev s_law_due : Stmt := top 22
abbrev s_law_whole : Stmt := top 14
abbrev s_law_knots : Stmt := top 16
abbrev s_law_piece : Stmt := top 20
abbrev s_law_refused : Stmt := top 23
abbrev s_law_sign_by : Stmt := top 19
abbrev s_law : Stmt := top 25
theorem sc_part_shown : FnScope ["figure", "units"] ["figure", "units"] (defScope s_part_shown) := ⟨rfl, rfl, rfl, by decide +kernel, rfl, by decide +kernel, by decide +kernel⟩
theorem sc_part_read : FnScope ["part", "units", "figure"] ["part", "units"] (defScope s_part_read) := ⟨rfl, rfl, rfl, by decide +kernel, rfl, by decide +kernel, by decide +kernel⟩
theorem sc_read : FnScope ["text", "parts"] ["text"] (defScope s_read) := ⟨rfl, rfl, rfl, by decide +kernel, rfl, by decide +kernel, by decide +kernel⟩
theorem sc_law_by_base : FnScope ["line", "e"] ["line"] (defScope s_law_by_base) := ⟨rfl, rfl, rfl, by decide +kernel, rfl, by decide +kernel, by decide +kernel⟩
theorem sc_law_cell_at : FnScope ["script", "k"] ["script", "k"] (defScope s_law_cell_at) := ⟨rfl, rfl, rfl, by decide +kernel, rfl, by decide +kernel, by decide +kernel⟩
theorem sc_law_part : FnScope ["figure", "units"] ["figure", "units"] (defScope s_law_part) := ⟨rfl, rfl, rfl, by decide +kernel, rfl, by decide +kernel, by decide +kernel⟩
theorem sc_law_figure : FnScope ["part", "units", "figure"] ["part", "units"] (defScope s_law_figure) := ⟨rfl, rfl, rfl, by decide +kernel, rfl, by decide +kernel, by decide +kernel⟩
theorem sc_law_due : FnScope ["line", "parts", "knots", "k"] ["line"] (defScope s_law_due) := ⟨rfl, rfl, rfl, by decide +kernel, rfl, by decide +kernel, by decide +kernel⟩
theorem sc_law_whole : FnScope ["found"] ["found"] (defScope s_law_whole) := ⟨rfl, rfl, rfl, by decide +kernel, rfl, by decide +kernel, by decide +kernel⟩
theorem sc_law_knots : FnScope ["found", "due", "k"] ["found", "due"] (defScope s_law_knots) := ⟨rfl, rfl, rfl, by decide +kernel, rfl, by decide +kernel, by decide +kernel⟩
theorem sc_law_piece : FnScope ["cell", "odd", "way"] ["cell"] (defScope s_law_piece) := ⟨rfl, rfl, rfl, by decide +kernel, rfl, by decide +kernel, by decide +kernel⟩
theorem sc_law_refused : FnScope ["line", "e"] ["line"] (defScope s_law_refused) := ⟨rfl, rfl, rfl, by decide +kernel, rfl, by decide +kernel, by decide +kernel⟩
theorem sc_law_sign_by : FnScope ["cell", "some"] ["cell"] (defScope s_law_sign_by) := ⟨rfl, rfl, rfl, by decide +kernel, rfl, by decide +kernel, by decide +kernel⟩
theorem sc_law : FnScope ["script", "count", "line", "k", "at", "due"] ["script"] (defScope s_law) := ⟨rfl, rfl, rfl, by decide +kernel, rfl, by decide +kernel, by decide +kernel⟩
structure Txt (K : PySem.W.Frag) (mg : Str → Option Value) : Prop where
  d_part_shown : DefAt K (("part_shown" : Str), (none : Option Str)) "part_shown" "part_shown" s_part_shown ["figure", "units"]
  g_part_shown : mg "part_shown" = some (.ref (He.ga K "part_shown"))
  d_part_read : DefAt K (("part_read" : Str), (none : Option Str)) "part_read" "part_read" s_part_read ["part", "units"]
  g_part_read : mg "part_read" = some (.ref (He.ga K "part_read"))
  d_read : DefAt K (("read" : Str), (none : Option Str)) "read" "read" s_read ["text"]
  g_read : mg "read" = some (.ref (He.ga K "read"))
  d_law_by_base : DefAt K (("_law_by_base" : Str), (none : Option Str)) "_law_by_base" "_law_by_base" s_law_by_base ["line"]
  g_law_by_base : mg "_law_by_base" = some (.ref (He.ga K "_law_by_base"))
  d_law_cell_at : DefAt K (("_law_cell_at" : Str), (none : Option Str)) "_law_cell_at" "_law_cell_at" s_law_cell_at ["script", "k"]
  g_law_cell_at : mg "_law_cell_at" = some (.ref (He.ga K "_law_cell_at"))
  d_law_part : DefAt K (("_law_part" : Str), (none : Option Str)) "_law_part" "_law_part" s_law_part ["figure", "units"]
  g_law_part : mg "_law_part" = some (.ref (He.ga K "_law_part"))
  d_law_figure : DefAt K (("_law_figure" : Str), (none : Option Str)) "_law_figure" "_law_figure" s_law_figure ["part", "units"]
  g_law_figure : mg "_law_figure" = some (.ref (He.ga K "_law_figure"))
  d_law_due : DefAt K (("_law_due" : Str), (none : Option Str)) "_law_due" "_law_due" s_law_due ["line"]
  g_law_due : mg "_law_due" = some (.ref (He.ga K "_law_due"))
  d_law_whole : DefAt K (("_law_whole" : Str), (none : Option Str)) "_law_whole" "_law_whole" s_law_whole ["found"]
  g_law_whole : mg "_law_whole" = some (.ref (He.ga K "_law_whole"))
  d_law_knots : DefAt K (("_law_knots" : Str), (none : Option Str)) "_law_knots" "_law_knots" s_law_knots ["found", "due"]
  g_law_knots : mg "_law_knots" = some (.ref (He.ga K "_law_knots"))
  d_law_piece : DefAt K (("_law_piece" : Str), (none : Option Str)) "_law_piece" "_law_piece" s_law_piece ["cell"]
  g_law_piece : mg "_law_piece" = some (.ref (He.ga K "_law_piece"))
  d_law_refused : DefAt K (("_law_refused" : Str), (none : Option Str)) "_law_refused" "_law_refused" s_law_refused ["line"]
  g_law_refused : mg "_law_refused" = some (.ref (He.ga K "_law_refused"))
  d_law_sign_by : DefAt K (("_law_sign_by" : Str), (none : Option Str)) "_law_sign_by" "_law_sign_by" s_law_sign_by ["cell"]
  g_law_sign_by : mg "_law_sign_by" = some (.ref (He.ga K "_law_sign_by"))
  d_law : DefAt K (("law" : Str), (none : Option Str)) "law" "law" s_law ["script"]
  g_law : mg "law" = some (.ref (He.ga K "law"))
  x_CordError : ExcAt K mg "CordError"
  x_Frayed : ExcAt K mg "Frayed"
  x_Illtied : ExcAt K mg "Illtied"
  x_NoCord : ExcAt K mg "NoCord"
  x_NoWay : ExcAt K mg "NoWay"
  x_Nothing : ExcAt K mg "Nothing"
  x_Taken : ExcAt K mg "Taken"
  n_ValueError : mg "ValueError" = none
  n_bool : mg "bool" = none
  n_int : mg "int" = none
  n_isinstance : mg "isinstance" = none
  n_len : mg "len" = none
  n_list : mg "list" = none
  n_range : mg "range" = none
  n_str : mg "str" = none
  e_Illtied_CordError : Exm K "Illtied" "CordError" true
  c_Illtied : ExcC K (He.ga K "Illtied")
  k_Illtied_NoWay : Kit K "Illtied" "NoWay" false
  k_Illtied_Nothing : Kit K "Illtied" "Nothing" false
  e_Illtied_Illtied : Exm K "Illtied" "Illtied" true
  k_Illtied_NoCord : Kit K "Illtied" "NoCord" false
  k_Illtied_Taken : Kit K "Illtied" "Taken" false
  k_Illtied_Frayed : Kit K "Illtied" "Frayed" false
  k_Illtied_CordError : Kit K "Illtied" "CordError" true
  kt_Illtied_ValueError : KitT K "Illtied" "ValueError" true
section
variable {P : Program} {w : World} {K : PySem.W.Frag} {mg : Str → Option Value} {base : Heap}
theorem ok_part_shown (T : Txt K mg) : FnOk P w K mg base CX0 1 (He.ga K "part_shown") (fdAt K (("part_shown" : Str), (none : Option Str))) ["figure", "units"] (sp_part_shown K) := by
  refine (T.d_part_shown.F.ok sc_part_shown (fun vs H Q E h => len_part_shown h) (fun cdv A outer s H vs Q E hr h => ⟨t_part_shown K E, PSs.nox ?_, pure_part_shown K vs H Q E h⟩) : FnOk P w K mg base CX0 (0 + 1) _ _ _ _)
  have hu := hu_of hr
  exact (pss_cons (ps_if (pt_cmpR op_isN (pv 0) pe_non (nomark _)) (pss_one (ps_ret pe_str)) pss_nil)
    (pss_cons (ps_if (pt_not (pt_val (pv 1))) (pss_one (ps_ret (pe_op op_mul_str pe_str (pv 0)))) pss_nil)
    (pss_cons (ps_if (pt_cmpR op_eq (pv 0) pe_int (nomark _)) (pss_one (ps_ret pe_str)) pss_nil)
    (pss_cons (ps_if (pt_cmpR op_eq (pv 0) pe_int (nomark _)) (pss_one (ps_ret pe_str)) pss_nil)
    (pss_one (ps_ret (pe_op op_add_str pe_str (pe_callTy call_str_int (by rfl) T.n_str (by decide +kernel) (pa_cons (pv 0) pa_nil)))))))))
theorem ok_part_read (T : Txt K mg) : FnOk P w K mg base (L2.CX P w) 3 (He.ga K "part_read") (fdAt K (("part_read" : Str), (none : Option Str))) ["part", "units"] (sp_part_read K) := by
  refine (T.d_part_read.F.ok sc_part_read (fun vs H Q E h => len_part_read h) (fun cdv A outer s H vs Q E hr h => ⟨t_part_read K E, ?_, pure_part_read K vs H Q E h⟩) : FnOk P w K mg base (L2.CX P w) (2 + 1) _ _ _ _)
  have hu := hu_of hr
  exact (pss_cons (ps_if (pt_cmpR op_eq (pv 0) pe_str (nomark _)) (pss_one (ps_ret pe_non)) pss_nil)
    (pss_cons (ps_for (passes_of rfl) rfl (pi_range1 (by rfl) T.n_range (pa_cons pe_int pa_nil)) (pg_name (i := 2) sc_part_read.nd rfl (by first | exact Or.inl rfl | exact Or.inr rfl)) (pss_one (ps_if (pt_cmpR op_eq (pv 0) (pe_call (ok_part_shown T) (hr.mono (by decide)) rfl T.g_part_shown T.d_part_shown.F.kp T.d_part_shown.b .nil pass0 (pa_cons (pv 2) (pa_cons (pv 1) pa_nil))) (nomark _)) (pss_one (ps_ret (pv 2))) pss_nil)))
    (pss_one (ps_raise (W := fun cls d _ H => E cls d H) rfl (takes_of rfl rfl rfl rfl) (pmk_own PySem.F.excBase_ValueError T.x_Illtied.ex T.x_Illtied.g T.x_Illtied.kp (raises_own T.x_Illtied.sb T.x_Illtied.ty) (by exact rfl))))))
theorem ok_read (T : Txt K mg) : FnOk P w K mg base (L2.CX P w) 5 (He.ga K "read") (fdAt K (("read" : Str), (none : Option Str))) ["text"] (sp_read K) := by
  refine (T.d_read.F.ok sc_read (fun vs H Q E h => len_read h) (fun cdv A outer s H vs Q E hr h => ⟨t_read K E, ?_, pure_read K vs H Q E h⟩) : FnOk P w K mg base (L2.CX P w) (4 + 1) _ _ _ _)
  have hu := hu_of hr
  exact (pss_cons (ps_set (i := 1) sc_read.nd rfl (by first | exact Or.inl rfl | exact Or.inr rfl) (pe_split (pv 0) pe_str))
    (pss_cons (ps_if (pt_cmpR op_ne (pe_callB call_len_seq (by rfl) T.n_len (by decide +kernel) (pa_cons (pv 1) pa_nil)) pe_int (nomark _)) (pss_one (ps_raise (W := fun cls d _ H => E cls d H) rfl (takes_of rfl rfl rfl rfl) (pmk_own PySem.F.excBase_ValueError T.x_Illtied.ex T.x_Illtied.g T.x_Illtied.kp (raises_own T.x_Illtied.sb T.x_Illtied.ty) (by exact rfl)))) pss_nil)
    (pss_one (ps_ret (pe_lst (pa_cons (pe_call (ok_part_read T) (hr.mono (by decide)) rfl T.g_part_read T.d_part_read.F.kp T.d_part_read.b .nil (passes_call (takes_of rfl rfl rfl rfl) (fun _ _ _ _ h => h)) (pa_cons (pe_ix ix_list (pv 1) pe_int (fun _ _ => rfl)) (pa_cons pe_bl pa_nil))) (pa_cons (pe_call (ok_part_read T) (hr.mono (by decide)) rfl T.g_part_read T.d_part_read.F.kp T.d_part_read.b .nil (passes_call (takes_of rfl rfl rfl rfl) (fun _ _ _ _ h => h)) (pa_cons (pe_ix ix_list (pv 1) pe_int (fun _ _ => rfl)) (pa_cons pe_bl pa_nil))) (pa_cons (pe_call (ok_part_read T) (hr.mono (by decide)) rfl T.g_part_read T.d_part_read.F.kp T.d_part_read.b .nil (passes_call (takes_of rfl rfl rfl rfl) (fun _ _ _ _ h => h)) (pa_cons (pe_ix ix_list (pv 1) pe_int (fun _ _ => rfl)) (pa_cons pe_bl pa_nil))) pa_nil))))))))
theorem ok_law_by_base (T : Txt K mg) : FnOk P w K mg base CX0 6 (He.ga K "_law_by_base") (fdAt K (("_law_by_base" : Str), (none : Option Str))) ["line"] (sp_law_by_base K) := by
  refine (T.d_law_by_base.F.ok sc_law_by_base (fun vs H Q E h => len_law_by_base h) (fun cdv A outer s H vs Q E hr h => ⟨t_law_by_base K E, PSs.nox ?_, pure_law_by_base K T.e_Illtied_CordError T.c_Illtied T.k_Illtied_NoWay T.k_Illtied_Nothing vs H Q E h⟩) : FnOk P w K mg base CX0 (5 + 1) _ _ _ _)
  have hu := hu_of hr
  exact (pss_cons (ps_try_as (i := 1) (Wout := fun _ _ _ _ => False) (tb := (fun W => tDrop (tCallS (sp_read K) (WE W) (tCons (tVar 0) tNil)))) (ts := fun a cls d => tRet (tAndV (tNotV (tCB (rIsX K cls d a) (tCons (tVar 1) (tCons (tC (.ref (He.ga K "NoWay"))) tNil)))) (tNotV (tCB (rIsX K cls d a) (tCons (tVar 1) (tCons (tC (.ref (He.ga K "Nothing"))) tNil)))))) rfl rfl sc_law_by_base.nd rfl rfl ⟨rfl, by decide, Or.inl T.x_CordError.g⟩ takes0 (fun W pn xe tk hp => (pss_one (ps_expr (pe_callS (ok_read T) (hr.mono (by decide)) rfl T.g_read T.d_read.F.kp T.d_read.b (fun σ => passAt tk σ) (pa_cons (pv 0) pa_nil))))) (fun a oe cls d pn hz hf => (pss_one (ps_ret (pe_and (pe_not (pe_callB (call_isX hz hf) (by rfl) T.n_isinstance (by decide +kernel) (pa_cons (pv 1) (pa_cons (pe_glob rfl T.x_NoWay.g rfl) pa_nil)))) (pe_one (pe_not (pe_callB (call_isX hz hf) (by rfl) T.n_isinstance (by decide +kernel) (pa_cons (pv 1) (pa_cons (pe_glob rfl T.x_Nothing.g rfl) pa_nil))))))))))
    (pss_one (ps_ret pe_bl)))
theorem ok_law_cell_at (T : Txt K mg) : FnOk P w K mg base CX0 1 (He.ga K "_law_cell_at") (fdAt K (("_law_cell_at" : Str), (none : Option Str))) ["script", "k"] (sp_law_cell_at K) := by
  refine (T.d_law_cell_at.F.ok sc_law_cell_at (fun vs H Q E h => len_law_cell_at h) (fun cdv A outer s H vs Q E hr h => ⟨t_law_cell_at K E, PSs.nox ?_, pure_law_cell_at K vs H Q E h⟩) : FnOk P w K mg base CX0 (0 + 1) _ _ _ _)
  have hu := hu_of hr
  exact (pss_cons (ps_if (pt_cmpR op_lt (pv 1) (pe_callB call_len_seq (by rfl) T.n_len (by decide +kernel) (pa_cons (pv 0) pa_nil)) (nomark _)) (pss_one (ps_ret (pe_ix ix_list (pv 0) (pv 1) (fun _ _ => rfl)))) pss_nil)
    (pss_one (ps_ret pe_int)))
theorem ok_law_part (T : Txt K mg) : FnOk P w K mg base CX0 1 (He.ga K "_law_part") (fdAt K (("_law_part" : Str), (none : Option Str))) ["figure", "units"] (sp_law_part K) := by
  refine (T.d_law_part.F.ok sc_law_part (fun vs H Q E h => len_law_part h) (fun cdv A outer s H vs Q E hr h => ⟨t_law_part K E, PSs.nox ?_, pure_law_part K vs H Q E h⟩) : FnOk P w K mg base CX0 (0 + 1) _ _ _ _)
  have hu := hu_of hr
  exact (pss_cons (ps_if (pt_cmpR op_isN (pv 0) pe_non (nomark _)) (pss_one (ps_ret pe_str)) pss_nil)
    (pss_cons (ps_if (pt_not (pt_val (pv 1))) (pss_one (ps_ret (pe_slice sl_str pe_str po_none (po_some (pv 0))))) pss_nil)
    (pss_one (ps_ret (pe_ix ix_list (pe_lst (pa_cons pe_str (pa_cons pe_str (pa_cons pe_str (pa_cons pe_str (pa_cons pe_str (pa_cons pe_str (pa_cons pe_str (pa_cons pe_str (pa_cons pe_str (pa_cons pe_str pa_nil))))))))))) (pv 0) (fun _ _ => rfl))))))
theorem ok_law_figure (T : Txt K mg) : FnOk P w K mg base CX0 2 (He.ga K "_law_figure") (fdAt K (("_law_figure" : Str), (none : Option Str))) ["part", "units"] (sp_law_figure K) := by
  refine (T.d_law_figure.F.ok sc_law_figure (fun vs H Q E h => len_law_figure h) (fun cdv A outer s H vs Q E hr h => ⟨t_law_figure K E, PSs.nox ?_, pure_law_figure K vs H Q E h⟩) : FnOk P w K mg base CX0 (1 + 1) _ _ _ _)
  have hu := hu_of hr
  exact (pss_cons (ps_for PassesOwn.never rfl (pi_range1 (by rfl) T.n_range (pa_cons pe_int pa_nil)) (pg_name (i := 2) sc_law_figure.nd rfl (by first | exact Or.inl rfl | exact Or.inr rfl)) (pss_one (ps_if (pt_cmpR op_eq (pv 0) (pe_call (ok_law_part T) (hr.mono (by decide)) rfl T.g_law_part T.d_law_part.F.kp T.d_law_part.b .nil pass0 (pa_cons (pv 2) (pa_cons (pv 1) pa_nil))) (nomark _)) (pss_one (ps_ret (pv 2))) pss_nil)))
    (pss_one (ps_ret (pe_un un_neg pe_int))))
theorem ok_law_due (T : Txt K mg) : FnOk P w K mg base CX0 3 (He.ga K "_law_due") (fdAt K (("_law_due" : Str), (none : Option Str))) ["line"] (sp_law_due K) := by
  refine (T.d_law_due.F.ok sc_law_due (fun vs H Q E h => len_law_due h) (fun cdv A outer s H vs Q E hr h => ⟨t_law_due K E, PSs.nox ?_, pure_law_due K vs H Q E h⟩) : FnOk P w K mg base CX0 (2 + 1) _ _ _ _)
  have hu := hu_of hr
  exact (pss_cons (ps_set (i := 1) sc_law_due.nd rfl (by first | exact Or.inl rfl | exact Or.inr rfl) (pe_split (pv 0) pe_str))
    (pss_cons (ps_if (pt_cmpR op_ne (pe_callB call_len_seq (by rfl) T.n_len (by decide +kernel) (pa_cons (pv 1) pa_nil)) pe_int (nomark _)) (pss_one (ps_ret pe_non)) pss_nil)
    (pss_cons (ps_set (i := 2) sc_law_due.nd rfl (by first | exact Or.inl rfl | exact Or.inr rfl) (pe_lst pa_nil))
    (pss_cons (ps_for PassesOwn.never rfl (pi_range1 (by rfl) T.n_range (pa_cons pe_int pa_nil)) (pg_name (i := 3) sc_law_due.nd rfl (by first | exact Or.inl rfl | exact Or.inr rfl)) (pss_one (ps_if (pt_cmpR op_eq (pe_ix ix_list (pv 1) (pv 3) (fun _ _ => rfl)) pe_str (nomark _)) (pss_one (ps_expr (pe_bm PySem.F.plainAttrs_list PySem.F.slot_list_append PySem.F.type_list_append mt_append (pv 2) (pa_cons pe_non pa_nil)))) (pss_one (ps_expr (pe_bm PySem.F.plainAttrs_list PySem.F.slot_list_append PySem.F.type_list_append mt_append (pv 2) (pa_cons (pe_call (ok_law_figure T) (hr.mono (by decide)) rfl T.g_law_figure T.d_law_figure.F.kp T.d_law_figure.b .nil pass0 (pa_cons (pe_ix ix_list (pv 1) (pv 3) (fun _ _ => rfl)) (pa_cons (pe_cmpR op_eq (pv 3) pe_int (nomark _)) pa_nil))) pa_nil)))))))
    (pss_cons (ps_if (pt_cmpR op_in_seq (pe_un un_neg pe_int) (pv 2) (by with_unfolding_all rfl)) (pss_one (ps_ret pe_non)) pss_nil)
    (pss_one (ps_ret (pv 2))))))))
theorem ok_law_whole (T : Txt K mg) : FnOk P w K mg base CX0 1 (He.ga K "_law_whole") (fdAt K (("_law_whole" : Str), (none : Option Str))) ["found"] (sp_law_whole K) := by
  refine (T.d_law_whole.F.ok sc_law_whole (fun vs H Q E h => len_law_whole h) (fun cdv A outer s H vs Q E hr h => ⟨t_law_whole K E, PSs.nox ?_, pure_law_whole K vs H Q E h⟩) : FnOk P w K mg base CX0 (0 + 1) _ _ _ _)
  have hu := hu_of hr
  exact (pss_one (ps_ret (pe_and (pe_callB call_isi (by rfl) T.n_isinstance (by decide +kernel) (pa_cons (pv 0) (pa_cons (pe_bltn (by rfl) T.n_int (by decide +kernel) rfl) pa_nil))) (pe_one (pe_not (pe_callB call_isi (by rfl) T.n_isinstance (by decide +kernel) (pa_cons (pv 0) (pa_cons (pe_bltn (by rfl) T.n_bool (by decide +kernel) rfl) pa_nil))))))))
theorem ok_law_knots (T : Txt K mg) : FnOk P w K mg base CX0 2 (He.ga K "_law_knots") (fdAt K (("_law_knots" : Str), (none : Option Str))) ["found", "due"] (sp_law_knots K) := by
  refine (T.d_law_knots.F.ok sc_law_knots (fun vs H Q E h => len_law_knots h) (fun cdv A outer s H vs Q E hr h => ⟨t_law_knots K E, PSs.nox ?_, pure_law_knots K vs H Q E h⟩) : FnOk P w K mg base CX0 (1 + 1) _ _ _ _)
  have hu := hu_of hr
  exact (pss_cons (ps_if (PW.pt (pw_or (pt_not (pt_val (pe_callB call_isi (by rfl) T.n_isinstance (by decide +kernel) (pa_cons (pv 0) (pa_cons (pe_bltn (by rfl) T.n_list (by decide +kernel) rfl) pa_nil))))) (pw_or1 (pt_cmpR op_ne (pe_callB call_len_seq (by rfl) T.n_len (by decide +kernel) (pa_cons (pv 0) pa_nil)) pe_int (nomark _))))) (pss_one (ps_ret pe_bl)) pss_nil)
    (pss_cons (ps_for PassesOwn.never rfl (pi_range1 (by rfl) T.n_range (pa_cons pe_int pa_nil)) (pg_name (i := 2) sc_law_knots.nd rfl (by first | exact Or.inl rfl | exact Or.inr rfl)) (pss_one (ps_if (pt_cmpR op_isN (pe_ix ix_list (pv 1) (pv 2) (fun _ _ => rfl)) pe_non (nomark _)) (pss_one (ps_if (pt_cmpR op_notN (pe_ix ix_list (pv 0) (pv 2) (fun _ _ => rfl)) pe_non (nomark _)) (pss_one (ps_ret pe_bl)) pss_nil)) (pss_one (ps_if (PW.pt (pw_or (pt_not (pt_val (pe_call (ok_law_whole T) (hr.mono (by decide)) rfl T.g_law_whole T.d_law_whole.F.kp T.d_law_whole.b .nil pass0 (pa_cons (pe_ix ix_list (pv 0) (pv 2) (fun _ _ => rfl)) pa_nil)))) (pw_or1 (pt_cmpR op_ne (pe_ix ix_list (pv 0) (pv 2) (fun _ _ => rfl)) (pe_ix ix_list (pv 1) (pv 2) (fun _ _ => rfl)) (nomark _))))) (pss_one (ps_ret pe_bl)) pss_nil)))))
    (pss_one (ps_ret pe_bl))))
theorem ok_law_piece (T : Txt K mg) : FnOk P w K mg base CX0 2 (He.ga K "_law_piece") (fdAt K (("_law_piece" : Str), (none : Option Str))) ["cell"] (sp_law_piece K) := by
  refine (T.d_law_piece.F.ok sc_law_piece (fun vs H Q E h => len_law_piece h) (fun cdv A outer s H vs Q E hr h => ⟨t_law_piece K E, PSs.nox ?_, pure_law_piece K vs H Q E h⟩) : FnOk P w K mg base CX0 (1 + 1) _ _ _ _)
  have hu := hu_of hr
  exact (pss_cons (ps_set (i := 1) sc_law_piece.nd rfl (by first | exact Or.inl rfl | exact Or.inr rfl) (pe_lst (pa_cons pe_str (pa_cons pe_str (pa_cons pe_str (pa_cons pe_str (pa_cons pe_str (pa_cons pe_str (pa_cons pe_str (pa_cons pe_str (pa_cons pe_str (pa_cons pe_str (pa_cons pe_str (pa_cons pe_str (pa_cons pe_str (pa_cons pe_str (pa_cons pe_str (pa_cons pe_str (pa_cons pe_str pa_nil)))))))))))))))))))
    (pss_cons (ps_set (i := 1) sc_law_piece.nd rfl (by first | exact Or.inl rfl | exact Or.inr rfl) (pe_op op_cat (pv 1) (pe_lst (pa_cons pe_str (pa_cons pe_str (pa_cons pe_str pa_nil))))))
    (pss_cons (ps_set (i := 2) sc_law_piece.nd rfl (by first | exact Or.inl rfl | exact Or.inr rfl) (pe_op op_mod (pv 0) pe_int))
    (pss_cons (ps_if (pt_cmpR op_eq (pv 2) pe_int (nomark _)) (pss_one (ps_ret (pe_ix ix_list (pv 1) (pe_op op_mod (pe_op op_fdiv (pv 0) pe_int) pe_int) (fun _ _ => rfl)))) pss_nil)
    (pss_cons (ps_if (pt_cmpR op_eq (pv 2) pe_int (nomark _)) (pss_one (ps_ret pe_str)) pss_nil)
    (pss_cons (ps_if (pt_cmpR op_eq (pv 2) pe_int (nomark _)) (pss_one (ps_ret (pe_call (ok_law_part T) (hr.mono (by decide)) rfl T.g_law_part T.d_law_part.F.kp T.d_law_part.b .nil pass0 (pa_cons (pe_op op_mod (pe_op op_fdiv (pv 0) pe_int) pe_int) (pa_cons pe_bl pa_nil))))) pss_nil)
    (pss_one (ps_ret (pe_slice sl_str pe_str po_none (po_some (pe_op op_mod (pe_op op_fdiv (pv 0) pe_int) pe_int)))))))))))
theorem ok_law_refused (T : Txt K mg) : FnOk P w K mg base CX0 6 (He.ga K "_law_refused") (fdAt K (("_law_refused" : Str), (none : Option Str))) ["line"] (sp_law_refused K) := by
  refine (T.d_law_refused.F.ok sc_law_refused (fun vs H Q E h => len_law_refused h) (fun cdv A outer s H vs Q E hr h => ⟨t_law_refused K E, PSs.nox ?_, pure_law_refused K T.e_Illtied_Illtied T.c_Illtied T.k_Illtied_NoCord T.k_Illtied_Taken T.k_Illtied_Frayed T.k_Illtied_CordError T.kt_Illtied_ValueError vs H Q E h⟩) : FnOk P w K mg base CX0 (5 + 1) _ _ _ _)
  have hu := hu_of hr
  exact (pss_cons (ps_try_as (i := 1) (Wout := fun _ _ _ _ => False) (tb := (fun W => tDrop (tCallS (sp_read K) (WE W) (tCons (tVar 0) tNil)))) (ts := fun a cls d => tSeq (tIfS (tOr (tB (tCB (rIsX K cls d a) (tCons (tVar 1) (tCons (tC (.ref (He.ga K "NoCord"))) tNil)))) (tOr (tB (tCB (rIsX K cls d a) (tCons (tVar 1) (tCons (tC (.ref (He.ga K "Taken"))) tNil)))) (tB (tCB (rIsX K cls d a) (tCons (tVar 1) (tCons (tC (.ref (He.ga K "Frayed"))) tNil)))))) (tRet (tC (.bl false))) tNext) (tRet (tAndV (tCB (rIsX K cls d a) (tCons (tVar 1) (tCons (tC (.ref (He.ga K "CordError"))) tNil))) (tCB (rIsX K cls d a) (tCons (tVar 1) (tCons (tC (.ty "ValueError")) tNil)))))) rfl rfl sc_law_refused.nd rfl rfl ⟨rfl, by decide, Or.inl T.x_Illtied.g⟩ takes0 (fun W pn xe tk hp => (pss_one (ps_expr (pe_callS (ok_read T) (hr.mono (by decide)) rfl T.g_read T.d_read.F.kp T.d_read.b (fun σ => passAt tk σ) (pa_cons (pv 0) pa_nil))))) (fun a oe cls d pn hz hf => (pss_cons (ps_if (PW.pt (pw_or (pt_val (pe_callB (call_isX hz hf) (by rfl) T.n_isinstance (by decide +kernel) (pa_cons (pv 1) (pa_cons (pe_glob rfl T.x_NoCord.g rfl) pa_nil)))) (pw_or (pt_val (pe_callB (call_isX hz hf) (by rfl) T.n_isinstance (by decide +kernel) (pa_cons (pv 1) (pa_cons (pe_glob rfl T.x_Taken.g rfl) pa_nil)))) (pw_or1 (pt_val (pe_callB (call_isX hz hf) (by rfl) T.n_isinstance (by decide +kernel) (pa_cons (pv 1) (pa_cons (pe_glob rfl T.x_Frayed.g rfl) pa_nil)))))))) (pss_one (ps_ret pe_bl)) pss_nil)
    (pss_one (ps_ret (pe_and (pe_callB (call_isX hz hf) (by rfl) T.n_isinstance (by decide +kernel) (pa_cons (pv 1) (pa_cons (pe_glob rfl T.x_CordError.g rfl) pa_nil))) (pe_one (pe_callB (call_isX hz hf) (by rfl) T.n_isinstance (by decide +kernel) (pa_cons (pv 1) (pa_cons (pe_bltn (by rfl) T.n_ValueError (by decide +kernel) rfl) pa_nil))))))))))
    (pss_one (ps_ret pe_bl)))
theorem ok_law_sign_by (T : Txt K mg) : FnOk P w K mg base CX0 1 (He.ga K "_law_sign_by") (fdAt K (("_law_sign_by" : Str), (none : Option Str))) ["cell"] (sp_law_sign_by K) := by
  refine (T.d_law_sign_by.F.ok sc_law_sign_by (fun vs H Q E h => len_law_sign_by h) (fun cdv A outer s H vs Q E hr h => ⟨t_law_sign_by K E, PSs.nox ?_, pure_law_sign_by K vs H Q E h⟩) : FnOk P w K mg base CX0 (0 + 1) _ _ _ _)
  have hu := hu_of hr
  exact (pss_cons (ps_set (i := 1) sc_law_sign_by.nd rfl (by first | exact Or.inl rfl | exact Or.inr rfl) pe_str)
    (pss_cons (ps_set (i := 1) sc_law_sign_by.nd rfl (by first | exact Or.inl rfl | exact Or.inr rfl) (pe_op op_add_str (pv 1) pe_str))
    (pss_one (ps_ret (pe_ix ix_str (pv 1) (pe_op op_mod (pv 0) pe_int) (fun _ _ => rfl))))))
theorem ok_law (T : Txt K mg) : FnOk P w K mg base CX0 7 (He.ga K "law") (fdAt K (("law" : Str), (none : Option Str))) ["script"] (sp_law K) := by
  refine (T.d_law.F.ok sc_law (fun vs H Q E h => len_law h) (fun cdv A outer s H vs Q E hr h => ⟨t_law K E, PSs.nox ?_, pure_law K vs H Q E h⟩) : FnOk P w K mg base CX0 (6 + 1) _ _ _ _)
  have hu := hu_of hr
  exact (pss_cons (ps_set (i := 1) sc_law.nd rfl (by first | exact Or.inl rfl | exact Or.inr rfl) (pe_ix ix_list (pe_lst (pa_cons pe_int (pa_cons pe_int (pa_cons pe_int (pa_cons pe_int (pa_cons pe_int (pa_cons pe_int pa_nil))))))) (pe_op op_mod (pe_call (ok_law_cell_at T) (hr.mono (by decide)) rfl T.g_law_cell_at T.d_law_cell_at.F.kp T.d_law_cell_at.b .nil pass0 (pa_cons (pv 0) (pa_cons pe_int pa_nil))) pe_int) (fun _ _ => rfl)))
    (pss_cons (ps_set (i := 2) sc_law.nd rfl (by first | exact Or.inl rfl | exact Or.inr rfl) (pe_join pe_str (pe_lc (own := [("k", 3)]) (by rfl) sc_law.nd (pi_range1 (by rfl) T.n_range (pa_cons (pv 1) pa_nil)) (blkOk_by (own := [("k", 3)]) (N := ["script", "count", "line", "k", "at", "due"]) (sc := defScope s_law) (by decide +kernel)) (fun _ _ _ _ _ => (pg_name (i := 3) sc_law.nd rfl (by first | exact Or.inl rfl | exact Or.inr rfl))) (fun _ _ _ _ _ => pts_nil) (fun _ _ _ _ _ => (pe_call (ok_law_piece T) (hr.mono (by decide)) rfl T.g_law_piece T.d_law_piece.F.kp T.d_law_piece.b .nil pass0 (pa_cons (pe_call (ok_law_cell_at T) (hr.mono (by decide)) rfl T.g_law_cell_at T.d_law_cell_at.F.kp T.d_law_cell_at.b .nil pass0 (pa_cons (pv 0) (pa_cons (pe_op op_add pe_int (pv 3)) pa_nil))) pa_nil))))))
    (pss_cons (ps_if (pt_cmpR op_eq (pe_op op_mod (pe_op op_fdiv (pe_call (ok_law_cell_at T) (hr.mono (by decide)) rfl T.g_law_cell_at T.d_law_cell_at.F.kp T.d_law_cell_at.b .nil pass0 (pa_cons (pv 0) (pa_cons pe_int pa_nil))) pe_int) pe_int) pe_int (nomark _)) (pss_cons (ps_set (i := 4) sc_law.nd rfl (by first | exact Or.inl rfl | exact Or.inr rfl) (pe_op op_mod (pe_call (ok_law_cell_at T) (hr.mono (by decide)) rfl T.g_law_cell_at T.d_law_cell_at.F.kp T.d_law_cell_at.b .nil pass0 (pa_cons (pv 0) (pa_cons pe_int pa_nil))) (pe_op op_add (pe_callB call_len_str (by rfl) T.n_len (by decide +kernel) (pa_cons (pv 2) pa_nil)) pe_int)))
    (pss_one (ps_set (i := 2) sc_law.nd rfl (by first | exact Or.inl rfl | exact Or.inr rfl) (pe_op op_add_str (pe_op op_add_str (pe_slice sl_str (pv 2) po_none (po_some (pv 4))) (pe_call (ok_law_sign_by T) (hr.mono (by decide)) rfl T.g_law_sign_by T.d_law_sign_by.F.kp T.d_law_sign_by.b .nil pass0 (pa_cons (pe_call (ok_law_cell_at T) (hr.mono (by decide)) rfl T.g_law_cell_at T.d_law_cell_at.F.kp T.d_law_cell_at.b .nil pass0 (pa_cons (pv 0) (pa_cons pe_int pa_nil))) pa_nil))) (pe_slice sl_str (pv 2) (po_some (pv 4)) po_none))))) pss_nil)
    (pss_cons (ps_set (i := 5) sc_law.nd rfl (by first | exact Or.inl rfl | exact Or.inr rfl) (pe_call (ok_law_due T) (hr.mono (by decide)) rfl T.g_law_due T.d_law_due.F.kp T.d_law_due.b .nil pass0 (pa_cons (pv 2) pa_nil)))
    (pss_cons (ps_if (pt_cmpR op_isN (pv 5) pe_non (nomark _)) (pss_one (ps_ret (pe_and (pe_call (ok_law_refused T) (hr.mono (by decide)) rfl T.g_law_refused T.d_law_refused.F.kp T.d_law_refused.b .nil pass0 (pa_cons (pv 2) pa_nil)) (pe_one (pe_call (ok_law_by_base T) (hr.mono (by decide)) rfl T.g_law_by_base T.d_law_by_base.F.kp T.d_law_by_base.b .nil pass0 (pa_cons (pv 2) pa_nil)))))) pss_nil)
    (pss_one (ps_ret (pe_call (ok_law_knots T) (hr.mono (by decide)) rfl T.g_law_knots T.d_law_knots.F.kp T.d_law_knots.b .nil pass0 (pa_cons (pe_call (ok_read T) (hr.mono (by decide)) rfl T.g_read T.d_read.F.kp T.d_read.b .nil passL (pa_cons (pv 2) pa_nil)) (pa_cons (pv 5) pa_nil))))))))))
end
/-! ### the head -/
def fn : List He.DefD := [ddOf (("part_shown" : Str), (none : Option Str)) "part_shown" "part_shown" s_part_shown,
  ddOf (("part_read" : Str), (none : Option Str)) "part_read" "part_read" s_part_read,
  ddOf (("read" : Str), (none : Option Str)) "read" "read" s_read,
  ddOf (("_law_by_base" : Str), (none : Option Str)) "_law_by_base" "_law_by_base" s_law_by_base,
  ddOf (("_law_cell_at" : Str), (none : Option Str)) "_law_cell_at" "_law_cell_at" s_law_cell_at,
  ddOf (("_law_part" : Str), (none : Option Str)) "_law_part" "_law_part" s_law_part,
  ddOf (("_law_figure" : Str), (none : Option Str)) "_law_figure" "_law_figure" s_law_figure,
  ddOf (("_law_due" : Str), (none : Option Str)) "_law_due" "_law_due" s_law_due,
  ddOf (("_law_whole" : Str), (none : Option Str)) "_law_whole" "_law_whole" s_law_whole,
  ddOf (("_law_knots" : Str), (none : Option Str)) "_law_knots" "_law_knots" s_law_knots,
  ddOf (("_law_piece" : Str), (none : Option Str)) "_law_piece" "_law_piece" s_law_piece,
  ddOf (("_law_refused" : Str), (none : Option Str)) "_law_refused" "_law_refused" s_law_refused,
  ddOf (("_law_sign_by" : Str), (none : Option Str)) "_law_sign_by" "_law_sign_by" s_law_sign_by,
  ddOf (("law" : Str), (none : Option Str)) "law" "law" s_law]
def fa : List Pd := [(He.Fa.glo "part_shown").ok,
  (He.Fa.glo "part_read").ok,
  (He.Fa.glo "read").ok,
  (He.Fa.glo "_law_by_base").ok,
  (He.Fa.glo "_law_cell_at").ok,
  (He.Fa.glo "_law_part").ok,
  (He.Fa.glo "_law_figure").ok,
  (He.Fa.glo "_law_due").ok,
  (He.Fa.glo "_law_whole").ok,
  (He.Fa.glo "_law_knots").ok,
  (He.Fa.glo "_law_piece").ok,
  (He.Fa.glo "_law_refused").ok,
  (He.Fa.glo "_law_sign_by").ok,
  (He.Fa.glo "law").ok,
  (He.Fa.glo "CordError").ok,
  (He.Fa.exc "CordError").ok,
  (He.Fa.glo "Frayed").ok,
  (He.Fa.exc "Frayed").ok,
  (He.Fa.glo "Illtied").ok,
  (He.Fa.exc "Illtied").ok,
  (He.Fa.glo "NoCord").ok,
  (He.Fa.exc "NoCord").ok,
  (He.Fa.glo "NoWay").ok,
  (He.Fa.exc "NoWay").ok,
  (He.Fa.glo "Nothing").ok,
  (He.Fa.exc "Nothing").ok,
  (He.Fa.glo "Taken").ok,
  (He.Fa.exc "Taken").ok,
  (He.Fa.free "ValueError").ok,
  (He.Fa.free "bool").ok,
  (He.Fa.free "int").ok,
  (He.Fa.free "isinstance").ok,
  (He.Fa.free "len").ok,
  (He.Fa.free "list").ok,
  (He.Fa.free "range").ok,
  (He.Fa.free "str").ok,
  exmB "Illtied" "CordError" true,
  excCB "Illtied",
  kiB "Illtied" "NoWay" false,
  kiB "Illtied" "Nothing" false,
  exmB "Illtied" "Illtied" true,
  kiB "Illtied" "NoCord" false,
  kiB "Illtied" "Taken" false,
  kiB "Illtied" "Frayed" false,
  kiB "Illtied" "CordError" true,
  kiTB "Illtied" "ValueError" true]
abbrev R : PySem.W.OpenRow := PySem.W.OpenLaw.row PySem.Challenge.rw_cordkeep_k05_texts_refused
abbrev hk : PySem.W.Hook := hookP 4 fa fn
def ob (s : PySem.W.SharedT) : He.AlD := obsPG 4 fa fn (HandSHeadRun.getT s)
theorem ob_eq (s : PySem.W.SharedT) : ob s = hk.obs s.abs := obsPG_eq (HandSHeadRun.getT_eq s)
def loose0 : List Str := ["CordError", "Illtied", "NoCord", "Nothing", "Taken", "Frayed", "NoWay", "part_shown", "part_read", "read", "_law_cell_at", "_law_whole", "_law_figures", "_law_knots", "_law_part", "_law_text", "_law_sign_by", "_law_piece", "_law_figure", "_law_due", "_law_refused", "_law_by_base"]
def loose : List Str := loose0
theorem run (w : World) : HandSHeadRun.RunEq R (PySem.W.view R.prog [25]) hk ob 4000 loose w := by
  intro os
  kernel_rfl
theorem txt {K : PySem.W.Frag} {h : Heap} {mg : Str → Option Value} (X : K.In h) (G : h.Ns mainGlobals mg) (c : SaysP fa fn K) : Txt K mg where
  d_part_shown := defAt_mk c 0 rfl fun _ _ _ _ _ _ us hl => match us, hl with | [_, _], _ => rfl
  g_part_shown := He.glo_ok X G (c.fact 0 rfl)
  d_part_read := defAt_mk c 1 rfl fun _ _ _ _ _ _ us hl => match us, hl with | [_, _], _ => rfl
  g_part_read := He.glo_ok X G (c.fact 1 rfl)
  d_read := defAt_mk c 2 rfl fun _ _ _ _ _ _ us hl => match us, hl with | [_], _ => rfl
  g_read := He.glo_ok X G (c.fact 2 rfl)
  d_law_by_base := defAt_mk c 3 rfl fun _ _ _ _ _ _ us hl => match us, hl with | [_], _ => rfl
  g_law_by_base := He.glo_ok X G (c.fact 3 rfl)
  d_law_cell_at := defAt_mk c 4 rfl fun _ _ _ _ _ _ us hl => match us, hl with | [_, _], _ => rfl
  g_law_cell_at := He.glo_ok X G (c.fact 4 rfl)
  d_law_part := defAt_mk c 5 rfl fun _ _ _ _ _ _ us hl => match us, hl with | [_, _], _ => rfl
  g_law_part := He.glo_ok X G (c.fact 5 rfl)
  d_law_figure := defAt_mk c 6 rfl fun _ _ _ _ _ _ us hl => match us, hl with | [_, _], _ => rfl
  g_law_figure := He.glo_ok X G (c.fact 6 rfl)
  d_law_due := defAt_mk c 7 rfl fun _ _ _ _ _ _ us hl => match us, hl with | [_], _ => rfl
  g_law_due := He.glo_ok X G (c.fact 7 rfl)
  d_law_whole := defAt_mk c 8 rfl fun _ _ _ _ _ _ us hl => match us, hl with | [_], _ => rfl
  g_law_whole := He.glo_ok X G (c.fact 8 rfl)
  d_law_knots := defAt_mk c 9 rfl fun _ _ _ _ _ _ us hl => match us, hl with | [_, _], _ => rfl
  g_law_knots := He.glo_ok X G (c.fact 9 rfl)
  d_law_piece := defAt_mk c 10 rfl fun _ _ _ _ _ _ us hl => match us, hl with | [_], _ => rfl
  g_law_piece := He.glo_ok X G (c.fact 10 rfl)
  d_law_refused := defAt_mk c 11 rfl fun _ _ _ _ _ _ us hl => match us, hl with | [_], _ => rfl
  g_law_refused := He.glo_ok X G (c.fact 11 rfl)
  d_law_sign_by := defAt_mk c 12 rfl fun _ _ _ _ _ _ us hl => match us, hl with | [_], _ => rfl
  g_law_sign_by := He.glo_ok X G (c.fact 12 rfl)
  d_law := defAt_mk c 13 rfl fun _ _ _ _ _ _ us hl => match us, hl with | [_], _ => rfl
  g_law := He.glo_ok X G (c.fact 13 rfl)
  x_CordError := excAt_mk X G (c.fact 14 rfl) (c.fact 15 rfl)
  x_Frayed := excAt_mk X G (c.fact 16 rfl) (c.fact 17 rfl)
  x_Illtied := excAt_mk X G (c.fact 18 rfl) (c.fact 19 rfl)
  x_NoCord := excAt_mk X G (c.fact 20 rfl) (c.fact 21 rfl)
  x_NoWay := excAt_mk X G (c.fact 22 rfl) (c.fact 23 rfl)
  x_Nothing := excAt_mk X G (c.fact 24 rfl) (c.fact 25 rfl)
  x_Taken := excAt_mk X G (c.fact 26 rfl) (c.fact 27 rfl)
  n_ValueError := He.free_ok X G (c.fact 28 rfl)
  n_bool := He.free_ok X G (c.fact 29 rfl)
  n_int := He.free_ok X G (c.fact 30 rfl)
  n_isinstance := He.free_ok X G (c.fact 31 rfl)
  n_len := He.free_ok X G (c.fact 32 rfl)
  n_list := He.free_ok X G (c.fact 33 rfl)
  n_range := He.free_ok X G (c.fact 34 rfl)
  n_str := He.free_ok X G (c.fact 35 rfl)
  e_Illtied_CordError := exmB_ok (c.fact 36 rfl)
  c_Illtied := excCB_ok (c.fact 37 rfl)
  k_Illtied_NoWay := kiB_ok (c.fact 38 rfl)
  k_Illtied_Nothing := kiB_ok (c.fact 39 rfl)
  e_Illtied_Illtied := exmB_ok (c.fact 40 rfl)
  k_Illtied_NoCord := kiB_ok (c.fact 41 rfl)
  k_Illtied_Taken := kiB_ok (c.fact 42 rfl)
  k_Illtied_Frayed := kiB_ok (c.fact 43 rfl)
  k_Illtied_CordError := kiB_ok (c.fact 44 rfl)
  kt_Illtied_ValueError := kiTB_ok (c.fact 45 rfl)
end K05
open PySem PySem.W PySem.Calls PyProof.Rows
set_option maxRecDepth 100000 in
set_option maxHeartbeats 0 in
theorem PySem.Challenge.cw_cordkeep_k05_texts_refused_holds : PySem.Challenge.rw_cordkeep_k05_texts_refused.Holds := by
  w_on; o_law
  refine HandSHeadRun.head_any (r := OpenLaw.row PySem.Challenge.rw_cordkeep_k05_texts_refused) (q := view (OpenLaw.row PySem.Challenge.rw_cordkeep_k05_texts_refused).prog [25]) (H := K05.hk) (ob := K05.ob) (M := 4000) (loose := K05.loose) (d := HandSHeadRun.topDef (OpenLaw.row PySem.Challenge.rw_cordkeep_k05_texts_refused).prog 25) (kwd := []) K05.ob_eq
    (by kernel_rfl) (fun s => by kernel_rfl) K05.run (by kernel_rfl) (by kernel_rfl) (by kernel_rfl) (by rfl) (by first | assumption | decide +kernel) (by decide +kernel) ⟨rfl, rfl, rfl, rfl, rfl, by decide +kernel⟩ ?hw ?hc
  case hw => w_witness2
  case hc =>
    refine L2.walk_ofE (l := PySem.Challenge.rw_cordkeep_k05_texts_refused) (n := 63) (k := 7) (x := "script") (CX := L2.CX0) rfl (by decide) (by kernel_rfl) ⟨rfl, by decide, by decide⟩ ?F (fun _ _ _ _ z => z)
    intro w mg fa h Y G hmg0
    obtain ⟨K, KX, c⟩ := Y
    have hmg : mg ("law" : PySem.Str) = some (.ref fa) := by
      have e : (HandSHeadRun.topDef (OpenLaw.row PySem.Challenge.rw_cordkeep_k05_texts_refused).prog 25).name = ("law" : PySem.Str) := by kernel_rfl
      rw [← e]
      exact hmg0
    have T := K05.txt KX G c
    have e := hmg.symm.trans T.g_law
    cases e
    have b := L2.FunD.bindsA (ps := ["script"]) T.d_law.F fun _ _ _ _ _ _ us hl => match us, hl with | [_], _ => rfl
    exact ⟨K, _, Cor.sp_law K, KX, fun s v => b s [v] rfl, fun H a ns hl _ hS => ⟨a, ns, rfl, hS, hl, fun _ => rfl⟩, fun base _ _ => K05.ok_law T⟩

#print axioms PySem.Challenge.cw_cordkeep_k05_texts_refused_holds
