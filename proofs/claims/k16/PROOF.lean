import PyProof.Rows.All
import Wide.All
import OpenK.AllK
import Wide.FinOn
import HandS.ForMost
import HandS.ForExc
import HandS.More
import HandS.Conv
import HandS.Codes
import HandS.Strs
import HandS.SortInts
import HandS.TryMany
import HandS.ExcIs
import HandS.IsInst
import HandS.Deep
import HandS.Zip
import HandS.Flow
import HandS.Rev
import HandS.TupLe
import HandS.ListEq
import HandS.Defaults
import HandS.Head0
import HandS.Head1
import HandS.Head2
import HandS.HeadEnd
import HandS.HeadHook1
import HandS.HeadHook2
import HandS.SetFor
import HandS.Set
import HandS.RevTup
import PySem.Challenge.RW_cordkeep_k16_records_looked_through
set_option Elab.async false
set_option linter.all false
set_option maxRecDepth 100000
set_option maxHeartbeats 4000000
/-! ## CorA -/
/-! ### the head's facts: any tests of the written part, and the defs -/
namespace Cor
open PySem PySem.Spec PyProof.Rows L2
abbrev Pd : Type := PySem.W.Frag → Bool
def obsP (ps : List Pd) (fn : List He.DefD) (K : PySem.W.Frag) : He.AlD := ((ps.all fun p => p K) && fn.all fun d => d.ok K, fn.map fun d => He.fnW K d.at_)
def SaysP (ps : List Pd) (fn : List He.DefD) (K : PySem.W.Frag) : Prop := obsP ps fn K = He.valD fn
def obsPG (n : Nat) (ps : List Pd) (fn : List He.DefD) (g : Addr → Option Obj) : He.AlD := obsP ps fn (He.frG g (He.asD g n))
def hookP (n : Nat) (ps : List Pd) (fn : List He.DefD) : PySem.W.Hook where
  α := He.AlD
  obs := fun s => obsPG n ps fn s.heap.get?
  val := fun _ => He.valD fn
  says := fun _ h => ∃ K : PySem.W.Frag, K.In h ∧ SaysP ps fn K
  of := fun _ _ e => ⟨_, He.frG_in, e⟩
  keeps := fun _ _ _ ⟨K, hK, c⟩ k => ⟨K, PySem.W.Frag.In.keeps hK k, c⟩
theorem obsPG_eq {n : Nat} {ps : List Pd} {fn : List He.DefD} {g : Addr → Option Obj} {s : Shared} (h : ∀ a, g a = s.heap.get? a) : obsPG n ps fn g = (hookP n ps fn).obs s := by
  have e : g = s.heap.get? := funext h
  rw [e] <;> rfl
section
variable {ps : List Pd} {fn : List He.DefD} {K : PySem.W.Frag}
theorem SaysP.fact (c : SaysP ps fn K) (i : Nat) {p : Pd} (h : ps[i]? = some p := by rfl) : p K = true := by
  have c1 := (He.ba (show ((ps.all fun p => p K) && fn.all fun d => d.ok K) = true from congrArg (fun z : He.AlD => z.1) c)).1
  exact List.all_eq_true.mp c1 p (List.mem_of_getElem? h)
theorem SaysP.def_ (c : SaysP ps fn K) (i : Nat) {d : He.DefD} (h : fn[i]? = some d := by rfl) : ∃ fd, FunD K d.name d.qual d.params d.body d.scope (d.dvs K) (d.kws K) (He.fAd K d.at_) fd := by
  have c2 := (He.ba (show ((ps.all fun p => p K) && fn.all fun d => d.ok K) = true from congrArg (fun z : He.AlD => z.1) c)).2
  have e : fn.map (fun d => He.fnW K d.at_) = fn.map He.DefD.val := congrArg (fun z : He.AlD => z.2) c
  have e2 : (fn.map fun d => He.fnW K d.at_)[i]? = (fn.map He.DefD.val)[i]? := by rw [e]
  rw [List.getElem?_map, List.getElem?_map, h] at e2
  exact He.DefD.funD (Option.some.inj e2) (List.all_eq_true.mp c2 d (List.mem_of_getElem? h))
end
/-! ### a def of the text by its place -/
def fdAt (K : PySem.W.Frag) (p : Str × Option Str) : FuncData := match K.lookup (He.fAd K p) with
  | some ⟨_, _, .func fd, _⟩ => fd
  | _ => PySem.W.fnOf "" "" ⟨[], [], none, [], [], none, []⟩ [] ⟨.function, [], false, false, []⟩ .none .none .none .none none .none .none
structure DefAt (K : PySem.W.Frag) (p : Str × Option Str) (x qual : Str) (st : Stmt) (ps : List Str) : Prop where
  F : FunD K x qual (defArgs st) (defBody st) (defScope st) [] [] (He.fAd K p) (fdAt K p)
  b : Binds K (fdAt K p) ps []
abbrev ddOf (p : Str × Option Str) (x qual : Str) (st : Stmt) : He.DefD := { at_ := p, name := x, qual := qual, params := defArgs st, body := defBody st, scope := defScope st }
theorem defAt_mk {ps' : List Pd} {fn : List He.DefD} {K : PySem.W.Frag} {p : Str × Option Str} {x qual : Str} {st : Stmt} {ps : List Str} (c : SaysP ps' fn K) (i : Nat) (h : fn[i]? = some (ddOf p x qual st))
    (hb : ∀ (kV doc pm : Value) (an : Option Addr) (cdv ct : Value) (us : List Value), us.length = ps.length → bindArgs (PySem.W.fnOf x qual (defArgs st) (defBody st) (defScope st) .none kV doc pm an cdv ct) ⟨us, []⟩ = pure (ps.zip us)) : DefAt K p x qual st ps := by
  obtain ⟨fd, F⟩ := c.def_ i h
  have F' : FunD K x qual (defArgs st) (defBody st) (defScope st) [] [] (He.fAd K p) fd := F
  have e : fdAt K p = fd := by
    obtain ⟨oc, od, dV, kV, doc, pm, an, cdv, ct, osl, rfl, lk, _⟩ := F'.ex
    unfold fdAt
    rw [lk] <;> rfl
  have b : Binds K fd ps [] := F'.bindsN hb
  rw [← e] at F' b
  exact ⟨F', b⟩
/-! ### an own exception class -/
structure ExcAt (K : PySem.W.Frag) (mg : Str → Option Value) (x : Str) : Prop where
  g : mg x = some (.ref (He.ga K x))
  ex : PySem.W.excIn K (He.ga K x) He.veBase "ValueError.__new__" = true
  kp : PySem.W.keepIn K (.ref (He.ga K x)) = true
  sb : PySem.W.subIn K (.ref (He.ga K x)) (.type "BaseException") = some true
  ty : PySem.W.typeIn K (.ref (He.ga K x)) = some (.type "type")
theorem excAt_mk {K : PySem.W.Frag} {h : Heap} {mg : Str → Option Value} {x : Str} (X : K.In h) (G : h.Ns mainGlobals mg) (c1 : (He.Fa.glo x).ok K = true) (c2 : (He.Fa.exc x).ok K = true) : ExcAt K mg x := by
  obtain ⟨a, b, c, d⟩ := He.exc_ok c2
  exact ⟨He.glo_ok X G c1, a, b, c, d⟩

/-! ### readings, step by step -/
section
variable {σ : L2.St} {H : Hp} {D : Ends} {t u : TS} {te ta tb tc : TE} {v x y : V} {Q : VK} {c : TT} {g : TG} {i : Nat} {K : PySem.W.Frag}
theorem g_seq (h : t { D with nx := u D } σ H) : tSeq t u D σ H := h
theorem g_asg (h : te σ H fun x H1 => g x σ H1 D.nx) : tAsg te g D σ H := h
theorem g_ret (h : te σ H D.rt) : tRet te D σ H := h
theorem g_drop (h : te σ H fun _ H1 => D.nx σ H1) : tDrop te D σ H := h
theorem g_ifs (h : c σ H fun b H1 => if b = true then t D σ H1 else u D σ H1) : tIfS c t u D σ H := h
theorem g_next (h : D.nx σ H) : tNext D σ H := h
theorem g_brk (h : D.bk σ H) : tBreak D σ H := h
theorem g_cont (h : D.ct σ H) : tCont D σ H := h
theorem g_name {Qs : L2.St → Hp → Prop} {σ' : L2.St} (e : σ.set i (some v) = σ') (h : Qs σ' H) : gName i v σ H Qs := by
  show Qs (σ.set i (some v)) H
  rw [e]
  exact h
theorem g_var (e : σ[i]? = some (some v)) (h : Q v H) : tVar i σ H Q := ⟨v, e, h⟩
theorem g_c (h : Q v H) : tC v σ H Q := h
theorem g_op {r : R2} (h : ta σ H fun x H1 => tb σ H1 fun y H2 => r x y H2 Q) : tOp r ta tb σ H Q := h
theorem g_un {r : V → Hp → VK → Prop} (h : ta σ H fun x H1 => r x H1 Q) : tUn r ta σ H Q := h
theorem g_I0 {f : Int → Int → V} {a b : Int} (h : Q (f a b) H) : rI0 f (.int a) (.int b) H Q := ⟨a, b, rfl, rfl, h⟩
theorem g_I {C : Int → Int → Prop} {f : Int → Int → V} {a b : Int} (hc : C a b) (h : Q (f a b) H) : rI C f (.int a) (.int b) H Q := ⟨a, b, rfl, rfl, hc, h⟩
theorem g_U {f : Int → V} {a : Int} (h : Q (f a) H) : rU f (.int a) H Q := ⟨a, rfl, h⟩
theorem g_eq (hs : scal x y = true) (h : Q (.bl (decide (x = y))) H) : rEq x y H Q := ⟨hs, h⟩
theorem g_ne (hs : scal x y = true) (h : Q (.bl (!decide (x = y))) H) : rNe x y H Q := ⟨hs, h⟩
theorem g_eqI {a b : Int} (h : Q (.bl (decide (a = b))) H) : rEq (.int a) (.int b) H Q := ⟨rfl, by
  have e : decide (V.int a = V.int b) = decide (a = b) := by
    by_cases q : a = b
    · subst q; simp
    · rw [decide_eq_false q, decide_eq_false (fun z => q (V.int.inj z))]
  rw [e]; exact h⟩
theorem g_neI {a b : Int} (h : Q (.bl (!decide (a = b))) H) : rNe (.int a) (.int b) H Q := ⟨rfl, by
  have e : decide (V.int a = V.int b) = decide (a = b) := by
    by_cases q : a = b
    · subst q; simp
    · rw [decide_eq_false q, decide_eq_false (fun z => q (V.int.inj z))]
  rw [e]; exact h⟩
theorem g_bl {b : Bool} {Qb : Bool → Hp → Prop} (h : Qb b H) : ∃ k, V.bl b = V.bl k ∧ Qb k H := ⟨b, rfl, h⟩
theorem g_test {Qb : Bool → Hp → Prop} (h : te σ H fun x H' => ∃ k, x = .bl k ∧ Qb k H') : tTest te σ H Qb := h
theorem g_B {Qb : Bool → Hp → Prop} (h : te σ H fun x H' => ∃ k, x = .bl k ∧ Qb k H') : tB te σ H Qb := h
theorem g_and {tA tB' : TT} {Qb : Bool → Hp → Prop} (h : tA σ H fun c H1 => if c = true then tB' σ H1 Qb else Qb false H1) : tAnd tA tB' σ H Qb := h
theorem g_or {tA tB' : TT} {Qb : Bool → Hp → Prop} (h : tA σ H fun c H1 => if c = true then Qb true H1 else tB' σ H1 Qb) : tOr tA tB' σ H Qb := h
theorem g_not {tA : TT} {Qb : Bool → Hp → Prop} (h : tA σ H fun c H1 => Qb (!c) H1) : tNot tA σ H Qb := h
theorem g_andV (h : ta σ H fun x H1 => ∃ c, x = .bl c ∧ if c = true then tb σ H1 Q else Q (.bl false) H1) : tAndV ta tb σ H Q := h
theorem g_orV (h : ta σ H fun x H1 => ∃ c, x = .bl c ∧ if c = true then Q (.bl true) H1 else tb σ H1 Q) : tOrV ta tb σ H Q := h
theorem g_notV (h : ta σ H fun x H1 => ∃ c, x = .bl c ∧ Q (.bl (!c)) H1) : tNotV ta σ H Q := h
theorem g_blV {b : Bool} {A : Bool → Prop} (h : A b) : ∃ k, V.bl b = V.bl k ∧ A k := ⟨b, rfl, h⟩
theorem g_ifE {t : TT} (h : t σ H fun c H1 => if c = true then ta σ H1 Q else tb σ H1 Q) : tIf t ta tb σ H Q := h
theorem g_lst {t : TA} (h : t σ H fun xs H1 => xs.length ≤ sizeLine ∧ ∀ p, H1 p = none → Q (.ref p) (upd H1 p (.lst xs))) : tLst t σ H Q := h
theorem g_tup {t : TA} (h : t σ H fun xs H1 => xs.length ≤ sizeLine ∧ ∀ p, H1 p = none → Q (.ref p) (upd H1 p (.tup xs))) : tTup t σ H Q := h
theorem g_cons {tr : TA} {Qs : List V → Hp → Prop} (h : ta σ H fun x H1 => tr σ H1 fun xs H2 => Qs (x :: xs) H2) : tCons ta tr σ H Qs := h
theorem g_nil {Qs : List V → Hp → Prop} (h : Qs [] H) : tNil σ H Qs := h
theorem g_call {sp : Sp} {dvs : List V} {E : XK} {t : TA} (h : t σ H fun vs H1 => sp (vs ++ dvs) H1 Q E) : tCall sp dvs E t σ H Q := h
theorem g_callS {sp : Sp} {E : L2.St → XK} {t : TA} (h : t σ H fun vs H1 => sp vs H1 Q (E σ)) : tCallS sp E t σ H Q := h
theorem g_CB {r : List V → Hp → VK → Prop} {t : TA} (h : t σ H fun vs H1 => r vs H1 Q) : tCB r t σ H Q := h
theorem g_ixL {p : Addr} {xs : List V} {k : Int} (hs : SqL K H p xs) (ha : atI xs k = some v) (h : Q v H) : rIxL K (.ref p) (.int k) H Q := ⟨p, xs, k, v, rfl, rfl, hs, ha, h⟩
theorem g_ixT {p : Addr} {xs : List V} {k : Int} (hs : SqT K H p xs) (ha : atI xs k = some v) (h : Q v H) : rIxT K (.ref p) (.int k) H Q := ⟨p, xs, k, v, rfl, rfl, hs, ha, h⟩
theorem g_chain {r r' : R2} (h : ta σ H fun x H1 => tb σ H1 fun y H2 => r x y H2 fun z H3 => ∃ k, z = .bl k ∧ (if k = true then tc σ H3 fun w' H4 => r' y w' H4 Q else Q (.bl false) H3)) : tChain r r' ta tb tc σ H Q := h
theorem g_fld {f : Str} (h : ta σ H fun x H1 => ∃ a C dx fs v, x = .ref a ∧ H1 a = some (.ins C dx fs) ∧ Cls K C ∧ NoAttr K C f ∧ fs.lookup f = some v ∧ Q v H1) : tFld K ta f σ H Q := h
theorem g_iteD {p : Prop} [Decidable p] {A B : Prop} (h1 : p → A) (h2 : ¬ p → B) : if decide p = true then A else B := by
  by_cases q : p
  · rw [decide_eq_true q, if_pos rfl]; exact h1 q
  · rw [decide_eq_false q, if_neg Bool.false_ne_true]; exact h2 q
theorem g_iteN {p : Prop} [Decidable p] {A B : Prop} (h1 : ¬ p → A) (h2 : p → B) : if (!decide p) = true then A else B := by
  by_cases q : p
  · rw [decide_eq_true q]; exact iteF (h2 q)
  · rw [decide_eq_false q]; exact iteT (h1 q)
theorem g_iteB {b : Bool} {A B : Prop} (h1 : b = true → A) (h2 : b = false → B) : if b = true then A else B := by
  cases b with
  | true => exact iteT (h1 rfl)
  | false => exact iteF (h2 rfl)
end
theorem sz_of {n : Nat} (h : n ≤ 100000) : n ≤ sizeLine := Nat.le_trans h (by decide)
theorem sz_lt {n : Nat} (h : n < 100000) : n < sizeLine := Nat.lt_of_lt_of_le h (by decide)
end Cor

/-! ## CorB -/
/-! ### readings by name -/
namespace Cor
open PySem PySem.Spec PyProof.Rows L2
abbrev rAddI : R2 := rI0 fun i j => .int (i + j)
abbrev rSubI : R2 := rI0 fun i j => .int (i - j)
abbrev rMulI : R2 := rI CMul fun i j => .int (i * j)
abbrev rModI : R2 := rI (fun _ j => 0 < j) fun i j => .int (i % j)
abbrev rDivI : R2 := rI CDiv fun i j => .int (i / j)
abbrev rPowI : R2 := rI CPow fun i j => .int (i ^ j.toNat)
abbrev rLtI : R2 := rI0 fun i j => .bl (decide (i < j))
abbrev rLeI : R2 := rI0 fun i j => .bl (decide (i ≤ j))
abbrev rGtI : R2 := rI0 fun i j => .bl (decide (j < i))
abbrev rGeI : R2 := rI0 fun i j => .bl (decide (j ≤ i))
abbrev rNegI : V → Hp → VK → Prop := rU fun i => .int (-i)
def rIsN : R2 := fun x y H Q => y = .non ∧ Q (.bl (decide (x = .non))) H
def rNotN : R2 := fun x y H Q => y = .non ∧ Q (.bl (!decide (x = .non))) H
def rAddS : R2 := fun x y H Q => ∃ i j, x = .str i ∧ y = .str j ∧ i.length + j.length ≤ sizeLine ∧ Q (.str (i ++ j)) H
def rLenL (K : PySem.W.Frag) : List V → Hp → VK → Prop := fun xs H Q => ∃ p ys, xs = [.ref p] ∧ (SqL K H p ys ∨ SqT K H p ys) ∧ Q (.int ys.length) H
def rLenT : List V → Hp → VK → Prop := fun xs H Q => ∃ z, xs = [.str z] ∧ z.length ≤ sizeLine ∧ Q (.int z.length) H
def rLenD : List V → Hp → VK → Prop := fun xs H Q => ∃ a kvs, xs = [V.ref a] ∧ H a = some (.dK kvs) ∧ Q (.int kvs.length) H
def rListL (K : PySem.W.Frag) : List V → Hp → VK → Prop := fun xs H Q => ∃ p ys, xs = [.ref p] ∧ (SqL K H p ys ∨ SqT K H p ys) ∧ ∀ l, H l = none → Q (.ref l) (upd H l (.lst ys))
def rDictD : List V → Hp → VK → Prop := fun xs H Q => ∃ (a : Addr) (kvs : List (Key × V)), xs = [.ref a] ∧ Rd H a (.dK kvs) ∧ ∀ p, H p = none → Q (.ref p) (upd H p (.dK kvs))
def rStrI : List V → Hp → VK → Prop := fun xs H Q => ∃ i, xs = [.int i] ∧ i.natAbs.log2 < 1920 ∧ Q (.str (toString i)) H
def rIntI : List V → Hp → VK → Prop := fun xs H Q => (∃ i, xs = [.int i] ∧ Q (.int i) H) ∨ ∃ k, xs = [.bl k] ∧ Q (.int (if k then 1 else 0)) H
def rMin2 : List V → Hp → VK → Prop := fun xs H Q => ∃ i j, xs = [.int i, .int j] ∧ Q (.int (if j < i then j else i)) H
def rMax2 : List V → Hp → VK → Prop := fun xs H Q => ∃ i j, xs = [.int i, .int j] ∧ Q (.int (if j > i then j else i)) H
def tRaise (E : XK) (C : Addr) : TS := fun _ _ H => E (.ref C) none H
/-- one except clause, with a name or without; several -/
def tTryO (K : PySem.W.Frag) (c : Value) (tb : WX → TS) (ts : Addr → Value → Option Addr → TS) : TS := fun D σ H => tb (wOnly K c ts (fun _ _ _ _ => False) D) D σ H
def tTryM (K : PySem.W.Frag) (l : List (Value × (Addr → Value → Option Addr → TS))) (tb : WX → TS) : TS := fun D σ H => tb (wMany K (fun _ _ _ _ => False) D l) D σ H
/-! ### facts of classes -/
def Exm (K : PySem.W.Frag) (x y : Str) (b : Bool) : Prop := PySem.W.exmOne K (.ref (He.ga K x)) (.ref (He.ga K y)) = some b
def exmB (x y : Str) (b : Bool) : Pd := fun K => decide (PySem.W.exmOne K (.ref (He.ga K x)) (.ref (He.ga K y)) = some b)
theorem exmB_ok {K : PySem.W.Frag} {x y : Str} {b : Bool} (h : exmB x y b K = true) : Exm K x y b := of_decide_eq_true (p := PySem.W.exmOne K (.ref (He.ga K x)) (.ref (He.ga K y)) = some b) h
def Kit (K : PySem.W.Frag) (x y : Str) (b : Bool) : Prop := PySem.W.kitOne K (.ref (He.ga K x)) (.ref (He.ga K y)) = some b
def kiB (x y : Str) (b : Bool) : Pd := fun K => decide (PySem.W.kitOne K (.ref (He.ga K x)) (.ref (He.ga K y)) = some b)
theorem kiB_ok {K : PySem.W.Frag} {x y : Str} {b : Bool} (h : kiB x y b K = true) : Kit K x y b := of_decide_eq_true (p := PySem.W.kitOne K (.ref (He.ga K x)) (.ref (He.ga K y)) = some b) h
def KitT (K : PySem.W.Frag) (x : Str) (y : String) (b : Bool) : Prop := PySem.W.kitOne K (.ref (He.ga K x)) (.type y) = some b
def kiTB (x : Str) (y : String) (b : Bool) : Pd := fun K => decide (PySem.W.kitOne K (.ref (He.ga K x)) (.type y) = some b)
theorem kiTB_ok {K : PySem.W.Frag} {x : Str} {y : String} {b : Bool} (h : kiTB x y b K = true) : KitT K x y b := of_decide_eq_true (p := PySem.W.kitOne K (.ref (He.ga K x)) (.type y) = some b) h
def excCB (x : Str) : Pd := fun K => He.eqO (PySem.W.findIn K (.ref (He.ga K x)) "__getattribute__") (some (some (.builtin "BaseException.__getattribute__"))) &&
  (He.eqO (PySem.W.findIn K (.ref (He.ga K x)) "__getattr__") (some none) && (decide (PySem.W.subIn K (.ref (He.ga K x)) (.type "BaseException") = some true) && (PySem.W.hasDictIn K (He.ga K x) &&
  (He.eqO (PySem.W.findIn K (.ref (He.ga K x)) "__class__") (some (some (.builtin "object.__class__"))) && (He.eqO (PySem.W.specialIn K (.builtin "object.__class__") "__get__") (some (some (.builtin "getset_descriptor.__get__"))) &&
  (decide (PySem.W.takesIn K (.builtin "object.__class__") = some true) && decide (PySem.W.mroIn K (He.ga K x) (.type "object") = some true)))))))
theorem excCB_ok {K : PySem.W.Frag} {x : Str} (h : excCB x K = true) : ExcC K (He.ga K x) := by
  obtain ⟨h1, h⟩ := He.ba h
  obtain ⟨h2, h⟩ := He.ba h
  obtain ⟨h3, h⟩ := He.ba h
  obtain ⟨h4, h⟩ := He.ba h
  obtain ⟨h5, h⟩ := He.ba h
  obtain ⟨h6, h⟩ := He.ba h
  obtain ⟨h7, h8⟩ := He.ba h
  exact ⟨He.eqO_ok h1, He.eqO_ok h2, of_decide_eq_true h3, h4, He.eqO_ok h5, He.eqO_ok h6, of_decide_eq_true h7, of_decide_eq_true h8⟩
/-! ### isinstance(e, C), e the exception that a suite holds, whatever its class -/
def rIsX (K : PySem.W.Frag) (cls : Value) (d : Option Addr) (a : Addr) : List V → Hp → VK → Prop := fun xs H Q => ∃ D, cls = .ref D ∧ d = none ∧ ExcC K D ∧ rIsE K D a xs H Q
theorem call_isX {X : Cx} {a : Addr} {oe : Obj} {cls : Value} {d : Option Addr} {pn : List (Addr × Obj)} (hz : Zc cls d oe) (hf : ∃ vs, oe.data = .fields vs) : CallR (X.suite a ((a, oe) :: pn)) (.builtin "isinstance") (rIsX X.K cls d a) := by
  intro pins s σ H xs us Q I r h
  obtain ⟨D, rfl, rfl, C, q⟩ := h
  exact call_isE C hz hf pins s σ H xs us Q I r q
/-! ### a method within a try's body -/
def tMethT (C : Addr) (m : Str) (sp : Sp) (E : L2.St → XK) (ta : TE) (t : TA) : TE := fun σ H Q => ta σ H fun x H1 => ∃ a dx fs, x = .ref a ∧ H1 a = some (.ins C dx fs) ∧ fs.lookup m = none ∧
  t σ H1 fun vs H2 => sp (x :: vs) H2 Q (E σ)
section
variable {X : Cx} {CX : CXT} {k : Nat} {f C : Addr} {fd : FuncData} {ps : List Str} {sp : Sp} {E : L2.St → XK} {x m : Str} {p pos apos : Pos} {e o : Expr} {es : List Expr} {ta : TE} {t : TA}
theorem pe_methT {pl : Sem Bool} (he : PE X o ta) (c : Cls X.K C) (hm : Meth X.K C m f) (F : FnOk X.prog X.w X.K X.mg X.base CX k f fd ps sp) (hr : Room k X.A) (hb : Binds X.K fd ps []) (hx : ∀ σ, PassesAt CX X σ (E σ)) (ha : PA X (e :: es) t)
    (hst : starEach (e :: es) X.env = (false, eval e X.env) :: starEach es X.env := by rfl) (hpl : (backTo pos (starEach es X.env)).any (·.1) = false := by rfl)
    (ht : eval (.Call (.Attribute o m apos) (e :: es) [] pos) X.env = (do
      let ov ← eval o X.env
      standAt apos.atName
      let (f, first) ← holding [ov] (getMethod ov m pl)
      callWith pos f first (backTo pos (starEach (e :: es) X.env)) (backToKw pos (keywordEach [] X.env))) := by rfl) :
    PE X (.Call (.Attribute o m apos) (e :: es) [] pos) (tMethT C m sp E ta t) := by
  refine ⟨fun pins s σ H Q I h => ?_⟩
  refine PySem.W.methodCall_KW (pl := pl) (thn (he.run pins s σ H _ I h) fun u s1 ⟨x, H1, I1, rx, a, dx, fs, ex, ea, l, q⟩ => ?_) ht
  subst ex
  obtain rfl : u = Value.ref a := rx
  refine getmeth_ok I1 ea c hm l ?_
  refine PySem.W.callWith_K (first := [.ref a]) (h₀ := X.base) I.ok.mod.kin hm.kp (thn (ha.run pos pins s1 σ H1 _ I1 q) fun us s2 ⟨vs, H2, I2, r, q2⟩ => ⟨I2.kIn, ?_⟩) hst hpl
  exact run_fnS (us := .ref a :: us) (vs := .ref a :: vs) F hr hb (hx σ) I2 (.cons rfl r) q2
theorem pe_methT0 {pl : Sem Bool} (he : PE X o ta) (c : Cls X.K C) (hm : Meth X.K C m f) (F : FnOk X.prog X.w X.K X.mg X.base CX k f fd ps sp) (hr : Room k X.A) (hb : Binds X.K fd ps []) (hx : ∀ σ, PassesAt CX X σ (E σ))
    (ht : eval (.Call (.Attribute o m apos) [] [] pos) X.env = (do
      let ov ← eval o X.env
      standAt apos.atName
      let (f, first) ← holding [ov] (getMethod ov m pl)
      callWith pos f first (backTo pos (starEach [] X.env)) (backToKw pos (keywordEach [] X.env))) := by rfl) :
    PE X (.Call (.Attribute o m apos) [] [] pos) (tMethT C m sp E ta tNil) := by
  refine ⟨fun pins s σ H Q I h => ?_⟩
  refine PySem.W.methodCall_KW (pl := pl) (thn (he.run pins s σ H _ I h) fun u s1 ⟨x, H1, I1, rx, a, dx, fs, ex, ea, l, q⟩ => ?_) ht
  subst ex
  obtain rfl : u = Value.ref a := rx
  refine getmeth_ok I1 ea c hm l ?_
  exact PySem.W.callWith_K0 (first := [.ref a]) I1.kIn hm.kp (run_fnS (us := [.ref a]) (vs := [.ref a]) F hr hb (hx σ) I1 (.cons rfl .nil) q)
end
/-! ### small readings -/
section
variable {σ : L2.St} {H : Hp} {Q : VK} {K : PySem.W.Frag} {x : V}
theorem g_isN (h : Q (.bl (decide (x = .non))) H) : rIsN x .non H Q := ⟨rfl, h⟩
theorem g_notN (h : Q (.bl (!decide (x = .non))) H) : rNotN x .non H Q := ⟨rfl, h⟩
theorem g_lenL {p : Addr} {ys : List V} (hs : SqL K H p ys) (h : Q (.int ys.length) H) : rLenL K [.ref p] H Q := ⟨p, ys, rfl, .inl hs, h⟩
theorem g_listL {p : Addr} {ys : List V} (hs : SqL K H p ys) (h : ∀ l, H l = none → Q (.ref l) (upd H l (.lst ys))) : rListL K [.ref p] H Q := ⟨p, ys, rfl, .inl hs, h⟩
/-- isinstance of flat values and of objects -/
theorem g_isi {u t : String} {b : Bool} (ht : TyX K H x (.type t)) (hk : L2.kitB t u = some b) (h : Q (.bl b) H) : rIsi K [x, .ty u] H Q := ⟨x, .ty u, .type t, .type u, b, rfl, .ty u, ht, kit_ty hk, h⟩
end
end Cor

/-! ## CorC -/
/-! ### loops by what is left -/
namespace Cor
open PySem PySem.Spec PyProof.Rows L2
section
variable {K : PySem.W.Frag} {σ : L2.St} {H : Hp} {D : Ends} {g : TG} {tb : TS} {wi : TI} {tl : TE} {ta : TA} {Q : VK}
/-- the items r of the list at a (all of them: all) are still to be walked -/
def forRun (K : PySem.W.Frag) (a : Addr) (all : List V) (g : TG) (tb : TS) (D : Ends) : List V → L2.St → Hp → Prop
  | [] => fun σ H => SqL K H a all ∧ D.nx σ H
  | x :: r => fun σ H => SqL K H a all ∧ g x σ H fun σ2 H2 => tb { D with nx := forRun K a all g tb D r, ct := forRun K a all g tb D r, bk := D.nx } σ2 H2
theorem forRun.sq {a : Addr} {all r : List V} (h : forRun K a all g tb D r σ H) : SqL K H a all := by
  cases r with
  | nil => exact h.1
  | cons x r => exact h.1
theorem drop_cons {α : Type} {xs : List α} {i : Nat} {x : α} (h : xs[i]? = some x) : xs.drop i = x :: xs.drop (i + 1) := by
  obtain ⟨hi, e⟩ := List.getElem?_eq_some_iff.mp h
  rw [← e]
  exact List.drop_eq_getElem_cons hi
theorem for_go {a : Addr} {xs : List V} (h : forRun K a xs g tb D xs σ H) : ∃ a', V.ref a = V.ref a' ∧ (∃ ys, SqL K H a' ys) ∧ ∃ W : Nat → Nat → L2.St → Hp → Prop, (∃ m, W 0 m σ H) ∧ ∀ i m σ H, W i m σ H →
    ((Itl K a').stop i H ∧ D.nx σ H) ∨ ((Itl K a').go i H ∧ ∃ N : L2.St → Hp → Prop, (∀ σ' H', N σ' H' → ∃ m', m' < m ∧ W (i + 1) m' σ' H') ∧ ∀ x H', (Itl K a').yld i H x H' → g x σ H' fun σ2 H2 => tb { D with nx := N, ct := N, bk := D.nx } σ2 H2) := by
  refine ⟨a, rfl, ⟨xs, h.sq⟩, for_list (K := K) (a := a) (xs := xs) (fun i σ H => forRun K a xs g tb D (xs.drop i) σ H) h (fun i σ H hi p => p.sq) (fun i x σ H hx p => ?_) (fun σ H p => ?_)⟩
  · rw [drop_cons hx] at p
    exact p.2
  · rw [List.drop_length] at p
    exact p.2
theorem g_forL (h : tl σ H fun x H1 => ∃ a, x = .ref a ∧ (∃ xs, SqL K H1 a xs) ∧ ∃ W : Nat → Nat → L2.St → Hp → Prop, (∃ m, W 0 m σ H1) ∧ ∀ i m σ H, W i m σ H →
    ((Itl K a).stop i H ∧ D.nx σ H) ∨ ((Itl K a).go i H ∧ ∃ N : L2.St → Hp → Prop, (∀ σ' H', N σ' H' → ∃ m', m' < m ∧ W (i + 1) m' σ' H') ∧ ∀ x H', (Itl K a).yld i H x H' → g x σ H' fun σ2 H2 => tb { D with nx := N, ct := N, bk := D.nx } σ2 H2)) : tFor (iList K tl) g tb D σ H := h
/-- n turns from k on -/
def forRng (g : TG) (tb : TS) (D : Ends) : Nat → Int → L2.St → Hp → Prop
  | 0, _ => fun σ H => D.nx σ H
  | n + 1, k => fun σ H => g (.int k) σ H fun σ2 H2 => tb { D with nx := forRng g tb D n (k + 1), ct := forRng g tb D n (k + 1), bk := D.nx } σ2 H2
theorem rng_go {lo : Int} {n : Nat} (h : forRng g tb D n lo σ H) : ∃ W : Nat → Nat → L2.St → Hp → Prop, (∃ m, W 0 m σ H) ∧ ∀ i m σ H, W i m σ H →
    ((Itr lo n).stop i H ∧ D.nx σ H) ∨ ((Itr lo n).go i H ∧ ∃ N : L2.St → Hp → Prop, (∀ σ' H', N σ' H' → ∃ m', m' < m ∧ W (i + 1) m' σ' H') ∧ ∀ x H', (Itr lo n).yld i H x H' → g x σ H' fun σ2 H2 => tb { D with nx := N, ct := N, bk := D.nx } σ2 H2) := by
  refine for_range (fun i σ H => i ≤ n ∧ forRng g tb D (n - i) (lo + i) σ H) ⟨Nat.zero_le _, by simpa using h⟩ (fun i σ H hi ⟨_, p⟩ => ?_) (fun σ H ⟨_, p⟩ => ?_)
  · obtain ⟨m, hm⟩ : ∃ m, n - i = m + 1 := ⟨n - i - 1, by omega⟩
    rw [hm] at p
    have e1 : n - (i + 1) = m := by omega
    have e2 : lo + ((i + 1 : Nat) : Int) = lo + (i : Int) + 1 := by omega
    have e3 : (fun σ H => i + 1 ≤ n ∧ forRng g tb D (n - (i + 1)) (lo + ((i + 1 : Nat) : Int)) σ H) = forRng g tb D m (lo + (i : Int) + 1) := by
      funext σ' H'
      rw [e1, e2]
      exact propext ⟨fun z => z.2, fun z => ⟨by omega, z⟩⟩
    show g (.int (lo + (i : Int))) σ H fun σ2 H2 => tb { D with nx := fun σ H => i + 1 ≤ n ∧ forRng g tb D (n - (i + 1)) (lo + ((i + 1 : Nat) : Int)) σ H, ct := fun σ H => i + 1 ≤ n ∧ forRng g tb D (n - (i + 1)) (lo + ((i + 1 : Nat) : Int)) σ H, bk := D.nx } σ2 H2
    rw [e3]
    exact p
  · rw [Nat.sub_self] at p
    exact p
theorem g_rng1 (h : ta σ H fun vs H1 => ∃ j : Int, vs = [.int j] ∧ -(2 ^ 62) ≤ j ∧ j < 2 ^ 62 ∧ forRng g tb D j.toNat 0 σ H1) (mono : ∀ Q Q' : List V → Hp → Prop, (∀ vs H, Q vs H → Q' vs H) → ta σ H Q → ta σ H Q') : tFor (iRng1 ta) g tb D σ H :=
  mono _ _ (fun vs H1 ⟨j, e, b1, b2, h⟩ => ⟨j, e, b1, b2, rng_go h⟩) h
/-- range(j), j given -/
theorem rng1_of {j : Int} (b1 : -(2 ^ 62) ≤ j) (b2 : j < 2 ^ 62) (h : forRng g tb D j.toNat 0 σ H) : ∃ j' : Int, [V.int j] = [.int j'] ∧ -(2 ^ 62) ≤ j' ∧ j' < 2 ^ 62 ∧ ∃ W : Nat → Nat → L2.St → Hp → Prop, (∃ m, W 0 m σ H) ∧ ∀ i m σ H, W i m σ H →
    ((Itr 0 j'.toNat).stop i H ∧ D.nx σ H) ∨ ((Itr 0 j'.toNat).go i H ∧ ∃ N : L2.St → Hp → Prop, (∀ σ' H', N σ' H' → ∃ m', m' < m ∧ W (i + 1) m' σ' H') ∧ ∀ x H', (Itr 0 j'.toNat).yld i H x H' → g x σ H' fun σ2 H2 => tb { D with nx := N, ct := N, bk := D.nx } σ2 H2) :=
  ⟨j, rfl, b1, b2, rng_go h⟩
theorem g_forR1 (h : ta σ H fun vs H1 => ∃ j : Int, vs = [.int j] ∧ -(2 ^ 62) ≤ j ∧ j < 2 ^ 62 ∧ ∃ W : Nat → Nat → L2.St → Hp → Prop, (∃ m, W 0 m σ H1) ∧ ∀ i m σ H, W i m σ H →
    ((Itr 0 j.toNat).stop i H ∧ D.nx σ H) ∨ ((Itr 0 j.toNat).go i H ∧ ∃ N : L2.St → Hp → Prop, (∀ σ' H', N σ' H' → ∃ m', m' < m ∧ W (i + 1) m' σ' H') ∧ ∀ x H', (Itr 0 j.toNat).yld i H x H' → g x σ H' fun σ2 H2 => tb { D with nx := N, ct := N, bk := D.nx } σ2 H2)) : tFor (iRng1 ta) g tb D σ H := h
/-! ### list comprehensions by what is left -/
section
variable {tt : TT} {te : TE} {vs : List Nat}
/-- an end, held unreduced -/
def ap (Q : VK) (v : V) (H : Hp) : Prop := Q v H
/-- the items r of the list at a (all of them: all) are still to be walked; the new list stands at L -/
def lcRun (K : PySem.W.Frag) (a : Addr) (all : List V) (g : TG) (tt : TT) (te : TE) (vs : List Nat) (σ : L2.St) (L : Addr) (Q : VK) : List V → Hp → Prop
  | [] => fun H => SqL K H a all ∧ Q (.ref L) H
  | x :: r => fun H => SqL K H a all ∧ g x (wipe σ vs) H fun σ2 H2 => wipe σ2 vs = wipe σ vs ∧ tt σ2 H2 fun b H3 =>
      if b = true then te σ2 H3 fun y H4 => ∃ acc, H4 L = some (.lst acc) ∧ acc.length < sizeLine ∧ lcRun K a all g tt te vs σ L Q r (upd H4 L (.lst (acc ++ [y]))) else lcRun K a all g tt te vs σ L Q r H3
theorem lcRun.sq {a : Addr} {all r : List V} {L : Addr} (h : lcRun K a all g tt te vs σ L Q r H) : SqL K H a all := by
  cases r with
  | nil => exact h.1
  | cons x r => exact h.1
theorem lc_go {a : Addr} {xs : List V} (hS : SqL K H a xs) (h : ∀ L, H L = none → lcRun K a xs g tt te vs σ L Q xs (upd H L (.lst []))) : ∃ a', V.ref a = V.ref a' ∧ (∃ ys, SqL K H a' ys) ∧ ∀ L, H L = none → ∃ W : Nat → Nat → Hp → Prop, (∃ m, W 0 m (upd H L (.lst []))) ∧ ∀ i m H, W i m H →
    ((Itl K a').stop i H ∧ ap Q (.ref L) H) ∨ ((Itl K a').go i H ∧ ∃ Nx : Hp → Prop, (∀ H', Nx H' → ∃ m', m' < m ∧ W (i + 1) m' H') ∧ ∀ x H', (Itl K a').yld i H x H' → g x (wipe σ vs) H' fun σ2 H2 => wipe σ2 vs = wipe σ vs ∧ tt σ2 H2 fun b H3 =>
      if b = true then te σ2 H3 fun y H4 => ∃ acc, H4 L = some (.lst acc) ∧ acc.length < sizeLine ∧ Nx (upd H4 L (.lst (acc ++ [y]))) else Nx H3) := by
  refine ⟨a, rfl, ⟨xs, hS⟩, fun L hL => lc_list (K := K) (a := a) (xs := xs) (fun i H => lcRun K a xs g tt te vs σ L Q (xs.drop i) H) (h L hL) (fun i H hi p => p.sq) (fun i x H hx p => ?_) (fun H p => ?_)⟩
  · rw [drop_cons hx] at p
    exact p.2
  · rw [List.drop_length] at p
    exact p.2
theorem g_lcL (h : tl σ H fun x H1 => ∃ a, x = .ref a ∧ (∃ xs, SqL K H1 a xs) ∧ ∀ L, H1 L = none → ∃ W : Nat → Nat → Hp → Prop, (∃ m, W 0 m (upd H1 L (.lst []))) ∧ ∀ i m H, W i m H →
    ((Itl K a).stop i H ∧ ap Q (.ref L) H) ∨ ((Itl K a).go i H ∧ ∃ Nx : Hp → Prop, (∀ H', Nx H' → ∃ m', m' < m ∧ W (i + 1) m' H') ∧ ∀ x H', (Itl K a).yld i H x H' → g x (wipe σ vs) H' fun σ2 H2 => wipe σ2 vs = wipe σ vs ∧ tt σ2 H2 fun b H3 =>
      if b = true then te σ2 H3 fun y H4 => ∃ acc, H4 L = some (.lst acc) ∧ acc.length < sizeLine ∧ Nx (upd H4 L (.lst (acc ++ [y]))) else Nx H3)) : tLc (iList K tl) g tt te vs σ H Q := h
/-- n turns from k on -/
def lcRng (g : TG) (tt : TT) (te : TE) (vs : List Nat) (σ : L2.St) (L : Addr) (Q : VK) : Nat → Int → Hp → Prop
  | 0, _ => fun H => Q (.ref L) H
  | n + 1, k => fun H => g (.int k) (wipe σ vs) H fun σ2 H2 => wipe σ2 vs = wipe σ vs ∧ tt σ2 H2 fun b H3 =>
      if b = true then te σ2 H3 fun y H4 => ∃ acc, H4 L = some (.lst acc) ∧ acc.length < sizeLine ∧ lcRng g tt te vs σ L Q n (k + 1) (upd H4 L (.lst (acc ++ [y]))) else lcRng g tt te vs σ L Q n (k + 1) H3
theorem lcr_go {lo : Int} {n : Nat} {L : Addr} (h : lcRng g tt te vs σ L Q n lo (upd H L (.lst []))) : ∃ W : Nat → Nat → Hp → Prop, (∃ m, W 0 m (upd H L (.lst []))) ∧ ∀ i m H, W i m H →
    ((Itr lo n).stop i H ∧ ap Q (.ref L) H) ∨ ((Itr lo n).go i H ∧ ∃ Nx : Hp → Prop, (∀ H', Nx H' → ∃ m', m' < m ∧ W (i + 1) m' H') ∧ ∀ x H', (Itr lo n).yld i H x H' → g x (wipe σ vs) H' fun σ2 H2 => wipe σ2 vs = wipe σ vs ∧ tt σ2 H2 fun b H3 =>
      if b = true then te σ2 H3 fun y H4 => ∃ acc, H4 L = some (.lst acc) ∧ acc.length < sizeLine ∧ Nx (upd H4 L (.lst (acc ++ [y]))) else Nx H3) := by
  refine lc_range (fun i H => i ≤ n ∧ lcRng g tt te vs σ L Q (n - i) (lo + i) H) ⟨Nat.zero_le _, by simpa using h⟩ (fun i H hi ⟨_, p⟩ => ?_) (fun H ⟨_, p⟩ => ?_)
  · obtain ⟨m, hm⟩ : ∃ m, n - i = m + 1 := ⟨n - i - 1, by omega⟩
    rw [hm] at p
    have e1 : n - (i + 1) = m := by omega
    have e2 : lo + ((i + 1 : Nat) : Int) = lo + (i : Int) + 1 := by omega
    have e3 : ∀ H, (i + 1 ≤ n ∧ lcRng g tt te vs σ L Q (n - (i + 1)) (lo + ((i + 1 : Nat) : Int)) H) = lcRng g tt te vs σ L Q m (lo + (i : Int) + 1) H := by
      intro H'
      rw [e1, e2]
      exact propext ⟨fun z => z.2, fun z => ⟨by omega, z⟩⟩
    simp only [e3]
    exact p
  · rw [Nat.sub_self] at p
    exact p
theorem lcr1_of {j : Int} (b1 : -(2 ^ 62) ≤ j) (b2 : j < 2 ^ 62) (h : ∀ L, H L = none → lcRng g tt te vs σ L Q j.toNat 0 (upd H L (.lst []))) : ∃ j' : Int, [V.int j] = [.int j'] ∧ -(2 ^ 62) ≤ j' ∧ j' < 2 ^ 62 ∧ ∀ L, H L = none → ∃ W : Nat → Nat → Hp → Prop, (∃ m, W 0 m (upd H L (.lst []))) ∧ ∀ i m H, W i m H →
    ((Itr 0 j'.toNat).stop i H ∧ ap Q (.ref L) H) ∨ ((Itr 0 j'.toNat).go i H ∧ ∃ Nx : Hp → Prop, (∀ H', Nx H' → ∃ m', m' < m ∧ W (i + 1) m' H') ∧ ∀ x H', (Itr 0 j'.toNat).yld i H x H' → g x (wipe σ vs) H' fun σ2 H2 => wipe σ2 vs = wipe σ vs ∧ tt σ2 H2 fun b H3 =>
      if b = true then te σ2 H3 fun y H4 => ∃ acc, H4 L = some (.lst acc) ∧ acc.length < sizeLine ∧ Nx (upd H4 L (.lst (acc ++ [y]))) else Nx H3) :=
  ⟨j, rfl, b1, b2, fun L hL => lcr_go (h L hL)⟩
theorem g_lcR1 (h : ta σ H fun vs' H1 => ∃ j : Int, vs' = [.int j] ∧ -(2 ^ 62) ≤ j ∧ j < 2 ^ 62 ∧ ∀ L, H1 L = none → ∃ W : Nat → Nat → Hp → Prop, (∃ m, W 0 m (upd H1 L (.lst []))) ∧ ∀ i m H, W i m H →
    ((Itr 0 j.toNat).stop i H ∧ ap Q (.ref L) H) ∨ ((Itr 0 j.toNat).go i H ∧ ∃ Nx : Hp → Prop, (∀ H', Nx H' → ∃ m', m' < m ∧ W (i + 1) m' H') ∧ ∀ x H', (Itr 0 j.toNat).yld i H x H' → g x (wipe σ vs) H' fun σ2 H2 => wipe σ2 vs = wipe σ vs ∧ tt σ2 H2 fun b H3 =>
      if b = true then te σ2 H3 fun y H4 => ∃ acc, H4 L = some (.lst acc) ∧ acc.length < sizeLine ∧ Nx (upd H4 L (.lst (acc ++ [y]))) else Nx H3)) : tLc (iRng1 ta) g tt te vs σ H Q := h
theorem g_yes {Qb : Bool → Hp → Prop} (h : Qb true H) : tYes σ H Qb := h
end
end
end Cor
namespace Cor
open PySem PySem.Spec PyProof.Rows L2
section
variable {K : PySem.W.Frag} {σ : L2.St} {H : Hp} {D : Ends} {Q : VK} {ta tb td ty to te tv tx : TE} {t : TA}
theorem g_new {xs : List V} {A : Addr → Prop} (hl : Nat.ble xs.length 100000 = true) (h : ∀ p, H p = none → A p) : xs.length ≤ sizeLine ∧ ∀ p, H p = none → A p := ⟨sz_of (Nat.le_of_ble_eq_true hl), h⟩
theorem g_mod {a b : Int} (hb : 0 < b) (h : Q (.int (a % b)) H) : rModI (.int a) (.int b) H Q := ⟨a, b, rfl, rfl, hb, h⟩
theorem g_div {a b : Int} (hb : 0 < b) (hb2 : b < 1073741824) (h : Q (.int (a / b)) H) : rDivI (.int a) (.int b) H Q := ⟨a, b, rfl, rfl, ⟨hb, hb2⟩, h⟩
theorem g_mul {a b : Int} (hb : CMul a b) (h : Q (.int (a * b)) H) : rMulI (.int a) (.int b) H Q := ⟨a, b, rfl, rfl, hb, h⟩
theorem g_sub {v : V} {ti : TE} {t : TSet} {Qs : L2.St → Hp → Prop} (h : to σ H fun o H1 => ti σ H1 fun i H2 => t o i v H2 fun H3 => Qs σ H3) : gSub to ti t v σ H Qs := h
theorem g_bm {T : String} {r : V → List V → Hp → VK → Prop} (h : to σ H fun x H1 => tyV K T x H1 ∧ t σ H1 fun xs H2 => r x xs H2 Q) : tBM K T r to t σ H Q := h
theorem g_bm0 {T : String} {r : V → List V → Hp → VK → Prop} (h : to σ H fun x H1 => tyV K T x H1 ∧ r x [] H1 Q) : tBM0 K T r to σ H Q := h
theorem g_dget (h : td σ H fun x H1 => ty σ H1 fun y H2 => ∃ a v, x = .ref a ∧ DGet H2 a y (some v) ∧ Q v H2) : tDGet td ty σ H Q := h
theorem g_din (h : ty σ H fun y H1 => td σ H1 fun x H2 => ∃ a o, x = .ref a ∧ DGet H2 a y o ∧ Q (.bl o.isSome) H2) : tDIn ty td σ H Q := h
theorem g_dnotin (h : ty σ H fun y H1 => td σ H1 fun x H2 => ∃ a o, x = .ref a ∧ DGet H2 a y o ∧ Q (.bl (!o.isSome)) H2) : tDNotIn ty td σ H Q := h
theorem g_dput (h : tv σ H fun v H1 => td σ H1 fun x H2 => ty σ H2 fun y H3 => ∃ a H4, x = .ref a ∧ DPut H3 a y v H4 ∧ D.nx σ H4) : sDPut td ty tv D σ H := h
theorem g_sl {r : V → Option Int → Option Int → Hp → VK → Prop} {tl th : TO} (h : te σ H fun x H1 => tl σ H1 fun l H2 => th σ H2 fun u H3 => r x l u H3 Q) : tSl r te tl th σ H Q := h
theorem g_part {Qo : Option Int → Hp → Prop} (h : te σ H fun x H1 => ∃ i, x = .int i ∧ Qo (some i) H1) : tPart te σ H Qo := h
theorem g_nopart {Qo : Option Int → Hp → Prop} (h : Qo none H) : tNoPart σ H Qo := h
theorem g_meth {C : Addr} {m : Str} {sp : Sp} {dvs : List V} {E : XK} (h : ta σ H fun x H1 => ∃ a dx fs, x = .ref a ∧ H1 a = some (.ins C dx fs) ∧ fs.lookup m = none ∧ t σ H1 fun vs H2 => sp (x :: (vs ++ dvs)) H2 Q E) : tMeth C m sp dvs E ta t σ H Q := h
theorem g_methT {C : Addr} {m : Str} {sp : Sp} {E : L2.St → XK} (h : ta σ H fun x H1 => ∃ a dx fs, x = .ref a ∧ H1 a = some (.ins C dx fs) ∧ fs.lookup m = none ∧ t σ H1 fun vs H2 => sp (x :: vs) H2 Q (E σ)) : tMethT C m sp E ta t σ H Q := h
theorem g_sfld {f : Str} (h : tv σ H fun y H1 => ta σ H1 fun x H2 => ∃ a C dx fs, x = .ref a ∧ H2 a = some (.ins C dx fs) ∧ Cls K C ∧ NoAttr K C f ∧ fs.length < 1000 ∧ D.nx σ (upd H2 a (.ins C dx (putF f y fs)))) : sFld K ta tv f D σ H := h
/-- what an object is to its methods -/
theorem ty_list {p : Addr} {xs : List V} (h : SqL K H p xs) : tyV K "list" (.ref p) H := .inl ⟨rfl, _, h⟩
theorem g_append {l : Addr} {xs : List V} {y : V} (h1 : H l = some (.lst xs)) (h2 : xs.length < sizeLine) (h : Q .non (upd H l (.lst (xs ++ [y])))) : rAppend (.ref l) [y] H Q := ⟨l, xs, y, rfl, rfl, h1, h2, h⟩
theorem g_setL {p : Addr} {xs : List V} {k : Int} {j : Nat} {v : V} {Qs : Hp → Prop} (h1 : H p = some (.lst xs)) (h2 : ixN xs.length k = some j) (h : Qs (upd H p (.lst (xs.set j v)))) : rSetL (.ref p) (.int k) v H Qs := ⟨p, xs, k, j, rfl, rfl, h1, h2, h⟩
end
end Cor
namespace Cor
theorem iteNT {A B : Prop} (h : B) : if (!true) = true then A else B := by
  rw [if_neg (by decide)]
  exact h
theorem iteNF {A B : Prop} (h : A) : if (!false) = true then A else B := by
  rw [if_pos (by decide)]
  exact h
end Cor
namespace Cor
open PySem PySem.Spec PyProof.Rows L2
/-! ### None or a number; heaps that grow -/
abbrev oV : Option Int → V
  | none => .non
  | some i => .int i
section
variable {H H' H2 : Hp} {p : Addr} {o : HO} {Q : VK} {i : Int} {s : Str} {K : PySem.W.Frag}
theorem g_isN0 (h : Q (.bl true) H) : rIsN .non .non H Q := ⟨rfl, by rw [decide_eq_true rfl]; exact h⟩
theorem g_isN1 (h : Q (.bl false) H) : rIsN (.int i) .non H Q := ⟨rfl, by rw [decide_eq_false (by intro z; cases z)]; exact h⟩
theorem g_isN2 (h : Q (.bl false) H) : rIsN (.ref p) .non H Q := ⟨rfl, by rw [decide_eq_false (by intro z; cases z)]; exact h⟩
theorem g_notN0 (h : Q (.bl false) H) : rNotN .non .non H Q := ⟨rfl, by rw [decide_eq_true rfl]; exact h⟩
theorem g_notN1 (h : Q (.bl true) H) : rNotN (.int i) .non H Q := ⟨rfl, by rw [decide_eq_false (by intro z; cases z)]; exact h⟩
theorem g_notN2 (h : Q (.bl true) H) : rNotN (.ref p) .non H Q := ⟨rfl, by rw [decide_eq_false (by intro z; cases z)]; exact h⟩
theorem same_new (h : H p = none) : Same H (upd H p o) := fun a u e => by
  rw [upd_ne (ne_of_none e h)]
  exact e
theorem same_mut (e : Same H H') (h : H p = none) : Same H (upd H' p o) := fun a u ha => by
  rw [upd_ne (ne_of_none ha h)]
  exact e a u ha
theorem same_add (e : Same H H') (h : H' p = none) : Same H (upd H' p o) := e.trans (same_new h)
theorem Same.lst {xs : List V} (e : Same H H') (h : H p = some (.lst xs)) : H' p = some (.lst xs) := e p _ h
theorem same_t {xs : List V} (e : Same H H') (h : SqT K H p xs) : SqT K H' p xs := by
  rcases h with (h | ⟨o, h⟩) | h
  · exact .inl (.inl (e _ _ h))
  · exact .inl (.inr ⟨o, e _ _ h⟩)
  · exact .inr h
/-- a new address stands apart from a known one -/
theorem ne_new (h : H p = some o) {q : Addr} (hq : H q = none) : p ≠ q := ne_of_none h hq
end
theorem dec_T {p : Prop} [Decidable p] (h : p) {A B : Prop} (a : A) : if decide p = true then A else B := by
  rw [decide_eq_true h]; exact iteT a
theorem dec_F {p : Prop} [Decidable p] (h : ¬ p) {A B : Prop} (b : B) : if decide p = true then A else B := by
  rw [decide_eq_false h]; exact iteF b
theorem dec_NT {p : Prop} [Decidable p] (h : p) {A B : Prop} (b : B) : if (!decide p) = true then A else B := by
  rw [decide_eq_true h]; exact iteNT b
theorem dec_NF {p : Prop} [Decidable p] (h : ¬ p) {A B : Prop} (a : A) : if (!decide p) = true then A else B := by
  rw [decide_eq_false h]; exact iteNF a
end Cor
namespace Cor
open PySem PySem.Spec PyProof.Rows L2
theorem g_rng0 {g : TG} {tb : TS} {D : Ends} {k : Int} {σ : L2.St} {H : Hp} (h : D.nx σ H) : forRng g tb D 0 k σ H := h
theorem g_run0 {K : PySem.W.Frag} {a : Addr} {all : List V} {g : TG} {tb : TS} {D : Ends} {σ : L2.St} {H : Hp} (hs : SqL K H a all) (h : D.nx σ H) : forRun K a all g tb D [] σ H := ⟨hs, h⟩
theorem g_run1 {K : PySem.W.Frag} {a : Addr} {all r : List V} {x : V} {g : TG} {tb : TS} {D : Ends} {σ : L2.St} {H : Hp} (hs : SqL K H a all) (h : g x σ H fun σ2 H2 => tb { D with nx := forRun K a all g tb D r, ct := forRun K a all g tb D r, bk := D.nx } σ2 H2) : forRun K a all g tb D (x :: r) σ H := ⟨hs, h⟩
end Cor
namespace Cor
open PySem PySem.Spec PyProof.Rows L2
/-! ### texts -/
def rMulS : R2 := fun x y H Q => ∃ z n, x = .str z ∧ y = .int n ∧ MulOk z n ∧ Q (.str (Txt.mul z n)) H
theorem op_mul_str {X : Cx} : OpR X (binaryOp .Mult) rMulS := by
  intro pins s σ H x y v u Q I rx ry h
  obtain ⟨z, n, rfl, rfl, hok, q⟩ := h
  obtain ⟨t, rfl⟩ := rx
  obtain ⟨t', rfl⟩ := ry
  exact SB.mul hok (fun t' k => ⟨.str (Txt.mul z n), H, I.tok _, ⟨_, rfl⟩, q⟩)
def rSplit : V → List V → Hp → VK → Prop := fun x xs H Q => ∃ a b, x = .str a ∧ xs = [.str b] ∧ (b.length == 0) = false ∧ a.length + 2 ≤ sizeLine ∧ rNewStrs (Txt.split a b) H Q
def rJoin (K : PySem.W.Frag) : V → List V → Hp → VK → Prop := fun x xs H Q => ∃ a p, ∃ ys : List Str, x = .str a ∧ xs = [.ref p] ∧ (SqL K H p (ys.map V.str) ∨ SqT K H p (ys.map V.str)) ∧ (ys.map (·.length)).sum + ys.length * a.length ≤ 16777216 ∧ Q (.str (Txt.join a ys)) H
section
variable {σ : L2.St} {H : Hp} {Q : VK} {K : PySem.W.Frag} {to te : TE} {a b : Str} {n : Int}
theorem g_M1 {r : V → List V → Hp → VK → Prop} (h : to σ H fun x H1 => (∃ a, x = .str a) ∧ te σ H1 fun y H2 => r x [y] H2 Q) : tM1 r to te σ H Q := h
theorem g_mulS (hok : MulOk a n) (h : Q (.str (Txt.mul a n)) H) : rMulS (.str a) (.int n) H Q := ⟨a, n, rfl, rfl, hok, h⟩
theorem g_addS (hl : a.length + b.length ≤ 100000) (h : Q (.str (a ++ b)) H) : rAddS (.str a) (.str b) H Q := ⟨a, b, rfl, rfl, sz_of hl, h⟩
theorem g_slS {lo hi : Option Int} (hl : a.length ≤ 100000) (h : Q (.str (cutS a lo hi)) H) : rSlS (.str a) lo hi H Q := ⟨a, rfl, sz_of hl, h⟩
theorem g_eqS (h : Q (.bl (decide (a = b))) H) : rEq (.str a) (.str b) H Q := ⟨rfl, by
  have e : decide (V.str a = V.str b) = decide (a = b) := by
    by_cases q : a = b
    · subst q; simp
    · rw [decide_eq_false q, decide_eq_false (fun z => q (V.str.inj z))]
  rw [e]; exact h⟩
theorem g_neS (h : Q (.bl (!decide (a = b))) H) : rNe (.str a) (.str b) H Q := ⟨rfl, by
  have e : decide (V.str a = V.str b) = decide (a = b) := by
    by_cases q : a = b
    · subst q; simp
    · rw [decide_eq_false q, decide_eq_false (fun z => q (V.str.inj z))]
  rw [e]; exact h⟩
theorem g_raise {E : XK} {C : Addr} {D : Ends} (h : E (.ref C) none H) : tRaise E C D σ H := h
theorem g_tryO {c : Value} {tb : WX → TS} {ts : Addr → Value → Option Addr → TS} {D : Ends} (h : tb (wOnly K c ts (fun _ _ _ _ => False) D) D σ H) : tTryO K c tb ts D σ H := h
theorem g_tryM {l : List (Value × (Addr → Value → Option Addr → TS))} {tb : WX → TS} {D : Ends} (h : tb (wMany K (fun _ _ _ _ => False) D l) D σ H) : tTryM K l tb D σ H := h
end
end Cor
namespace Cor
open PySem PySem.Spec PyProof.Rows L2
/-- one clause with a name, its slot i -/
def tTryA (K : PySem.W.Frag) (c : Value) (i : Nat) (tb : WX → TS) (ts : Addr → Value → Option Addr → TS) : TS := fun D σ H => tb (wAs K c i ts (fun _ _ _ _ => False) D) D σ H
theorem g_tryA {K : PySem.W.Frag} {c : Value} {i : Nat} {tb : WX → TS} {ts : Addr → Value → Option Addr → TS} {D : Ends} {σ : L2.St} {H : Hp} (h : tb (wAs K c i ts (fun _ _ _ _ => False) D) D σ H) : tTryA K c i tb ts D σ H := h
/-- an index that lies in the list -/
theorem atI_in {α : Type} {xs : List α} {k : Int} (h0 : 0 ≤ k) (h1 : k < xs.length) : ∃ v, atI xs k = some v ∧ v ∈ xs := by
  obtain ⟨j, rfl⟩ : ∃ j : Nat, k = (j : Int) := ⟨k.toNat, by omega⟩
  have hj : j < xs.length := by omega
  exact ⟨xs[j], atI_nat (List.getElem?_eq_getElem hj), List.getElem_mem hj⟩
end Cor
namespace Cor
open PySem PySem.Spec PyProof.Rows L2
section
variable {K : PySem.W.Frag} {H : Hp} {σ : L2.St} {Q : VK} {D : Ends} {x y : Str} {a : Addr} {b : Bool}
theorem was_yes {i : Nat} {ts : Addr → Value → Option Addr → TS} {Wout : WX} (hx : Exm K x y true)
    (h : ∀ a, H a = none → ts a (.ref (He.ga K x)) none { nx := fun σ' H' => D.nx (σ'.set i none) H', rt := D.rt, bk := fun σ' H' => D.bk (σ'.set i none) H', ct := fun σ' H' => D.ct (σ'.set i none) H' } (σ.set i (some (.ref a))) H) :
    WE (wAs K (.ref (He.ga K y)) i ts Wout D) σ (.ref (He.ga K x)) none H := ⟨true, hx, fun _ a ha => h a ha, fun z => nomatch z⟩
theorem wonly_yes {ts : Addr → Value → Option Addr → TS} {Wout : WX} (hx : Exm K x y true) (h : ∀ a, H a = none → ts a (.ref (He.ga K x)) none D σ H) :
    WE (wOnly K (.ref (He.ga K y)) ts Wout D) σ (.ref (He.ga K x)) none H := ⟨true, hx, fun _ a ha => h a ha, fun z => nomatch z⟩
theorem g_isX (hc : ExcC K (He.ga K x)) (hk : Kit K x y b) (h : Q (.bl b) H) : rIsX K (.ref (He.ga K x)) none a [.ref a, .ref (He.ga K y)] H Q :=
  ⟨He.ga K x, rfl, rfl, hc, .ref (He.ga K y), .ref (He.ga K y), b, rfl, fun _ r => r, hk, h⟩
theorem g_isXT {n : String} (hc : ExcC K (He.ga K x)) (hk : KitT K x n b) (h : Q (.bl b) H) : rIsX K (.ref (He.ga K x)) none a [.ref a, .ty n] H Q :=
  ⟨He.ga K x, rfl, rfl, hc, .ty n, .type n, b, rfl, fun _ r => r, hk, h⟩
theorem g_cat {l m : Addr} {xs zs : List V} (h1 : H l = some (.lst xs)) (h2 : H m = some (.lst zs)) (h3 : xs.length + zs.length ≤ 100000) (h : ∀ p, H p = none → Q (.ref p) (upd H p (.lst (xs ++ zs)))) : rCat (.ref l) (.ref m) H Q :=
  ⟨l, m, xs, zs, rfl, rfl, h1, h2, sz_of h3, h⟩
theorem g_ixS {z : Str} {k : Int} {c : Nat} (hl : z.length ≤ 100000) (h1 : atI z.cps.toList k = some c) (h : Q (.str ⟨#[c]⟩) H) : rIxS (.str z) (.int k) H Q := ⟨z, k, c, rfl, rfl, sz_of hl, h1, h⟩
theorem g_in {p : Addr} {xs : List V} {v : V} (hs : SqL K H p xs) (hf : flatV v = true) (hx : xs.all flatV = true) (h : Q (.bl (inV v xs)) H) : rIn K false v (.ref p) H Q := ⟨p, xs, rfl, .inl hs, hf, hx, h⟩
theorem g_notin {p : Addr} {xs : List V} {v : V} (hs : SqL K H p xs) (hf : flatV v = true) (hx : xs.all flatV = true) (h : Q (.bl (!inV v xs)) H) : rIn K true v (.ref p) H Q := ⟨p, xs, rfl, .inl hs, hf, hx, h⟩
theorem g_lenS {z : Str} (hl : z.length ≤ 100000) (h : Q (.int z.length) H) : rLenT [.str z] H Q := ⟨z, rfl, sz_of hl, h⟩
theorem flat_oV (l : List (Option Int)) : (l.map oV).all flatV = true := by
  rw [List.all_eq_true]
  intro v hv
  obtain ⟨f, _, rfl⟩ := List.mem_map.mp hv
  cases f <;> rfl
theorem flat_int (l : List Int) : (l.map V.int).all flatV = true := by
  rw [List.all_eq_true]
  intro v hv
  obtain ⟨f, _, rfl⟩ := List.mem_map.mp hv
  rfl
theorem in_oV (k : Int) (l : List (Option Int)) : inV (.int k) (l.map oV) = decide (some k ∈ l) := by
  induction l with
  | nil => rfl
  | cons f r ih =>
    have e : inV (.int k) ((f :: r).map oV) = (eqV (oV f) (.int k) || inV (.int k) (r.map oV)) := rfl
    rw [e, ih]
    cases f with
    | none =>
      show (false || decide (some k ∈ r)) = _
      rw [Bool.false_or]
      simp
    | some i =>
      show ((i == k) || decide (some k ∈ r)) = _
      by_cases q : i = k
      · subst q; simp
      · have q2 : (i == k) = false := by simpa using q
        rw [q2, Bool.false_or]
        simp [Ne.symm q]
theorem in_int (k : Int) (l : List Int) : inV (.int k) (l.map V.int) = decide (k ∈ l) := by
  induction l with
  | nil => rfl
  | cons i r ih =>
    have e : inV (.int k) ((i :: r).map V.int) = ((i == k) || inV (.int k) (r.map V.int)) := rfl
    rw [e, ih]
    by_cases q : i = k
    · subst q; simp
    · have q2 : (i == k) = false := by simpa using q
      rw [q2, Bool.false_or]
      simp [Ne.symm q]
end
end Cor
namespace Cor
open PySem PySem.Spec PyProof.Rows L2
section
variable {K : PySem.W.Frag} {σ : L2.St} {H : Hp} {D : Ends} {g : TG} {tb : TS} {tt : TT} {te : TE} {vs : List Nat} {L : Addr} {Q : VK} {n : Nat} {k : Int}
theorem g_rngS (h : g (.int k) σ H fun σ2 H2 => tb { D with nx := forRng g tb D n (k + 1), ct := forRng g tb D n (k + 1), bk := D.nx } σ2 H2) : forRng g tb D (n + 1) k σ H := h
theorem g_lcr0 (h : Q (.ref L) H) : lcRng g tt te vs σ L Q 0 k H := h
theorem g_lcrS (h : g (.int k) (wipe σ vs) H fun σ2 H2 => wipe σ2 vs = wipe σ vs ∧ tt σ2 H2 fun b H3 =>
      if b = true then te σ2 H3 fun y H4 => ∃ acc, H4 L = some (.lst acc) ∧ acc.length < sizeLine ∧ lcRng g tt te vs σ L Q n (k + 1) (upd H4 L (.lst (acc ++ [y]))) else lcRng g tt te vs σ L Q n (k + 1) H3) : lcRng g tt te vs σ L Q (n + 1) k H := h
theorem g_wip {σ1 σ2 : L2.St} {A : Prop} (e : wipe σ1 vs = wipe σ2 vs) (h : A) : wipe σ1 vs = wipe σ2 vs ∧ A := ⟨e, h⟩
theorem g_some {A : Int → Prop} {i : Int} (h : A i) : ∃ j, V.int i = .int j ∧ A j := ⟨i, rfl, h⟩
end
end Cor
namespace Cor
open PySem PySem.Spec PyProof.Rows L2
theorem g_lstRg {σ : L2.St} {H : Hp} {Q : VK} {te : TE} (h : te σ H fun x H1 => ∃ n, x = .int n ∧ (RgOk 0 n ∧ ∀ q, H1 q = none → Q (.ref q) (upd H1 q (.lst (rgV 0 n))))) : tLstRg (tRg1 te) σ H Q := h
end Cor
namespace Cor
open PySem PySem.Spec PyProof.Rows L2
section
variable {K : PySem.W.Frag} {H : Hp} {σ : L2.St} {D : Ends} {x y : Str} {ts : Addr → Value → Option Addr → TS} {l : List (Value × (Addr → Value → Option Addr → TS))} {Wout : WX}
theorem wmany_hit (hx : Exm K x y true) (h : ∀ a, H a = none → ts a (.ref (He.ga K x)) none D σ H) : WE (wMany K Wout D ((.ref (He.ga K y), ts) :: l)) σ (.ref (He.ga K x)) none H := ⟨true, hx, fun _ a ha => h a ha, fun z => nomatch z⟩
theorem wmany_skip (hx : Exm K x y false) (h : WE (wMany K Wout D l) σ (.ref (He.ga K x)) none H) : WE (wMany K Wout D ((.ref (He.ga K y), ts) :: l)) σ (.ref (He.ga K x)) none H := ⟨false, hx, (fun z => nomatch z), fun _ => h⟩
end
end Cor
namespace Cor
open PySem PySem.Spec PyProof.Rows L2
theorem ixN_nn {n : Nat} {i : Int} (h0 : 0 ≤ i) (h1 : i < n) : ixN n i = some i.toNat := by
  unfold ixN
  rw [if_pos h0, if_pos h1]
end Cor

/-! ## PuK -/
local macro_rules | `(tactic| walk_at "go1") => `(tactic| first
  | (with_reducible first
    | refine Cor.g_seq ?_ | refine Cor.g_asg ?_ | refine Cor.g_ret ?_ | refine Cor.g_drop ?_ | refine Cor.g_ifs ?_ | refine Cor.g_op ?_
    | refine Cor.g_c ?_ | refine Cor.g_cons ?_ | refine Cor.g_nil ?_ | refine Cor.g_I0 ?_ | refine Cor.g_test ?_ | refine Cor.g_B ?_ | refine Cor.g_blV ?_ | refine L2.iteT ?_ | refine L2.iteF ?_ | refine Cor.iteNT ?_ | refine Cor.iteNF ?_
    | refine Cor.g_CB ?_ | refine Cor.g_call ?_ | refine Cor.g_lst ?_ | refine Cor.g_tup ?_ | refine Cor.g_and ?_ | refine Cor.g_or ?_ | refine Cor.g_not ?_ | refine Cor.g_andV ?_ | refine Cor.g_orV ?_ | refine Cor.g_notV ?_
    | refine Cor.g_chain ?_ | refine Cor.g_un ?_ | refine Cor.g_U ?_ | refine Cor.g_ifE ?_ | refine Cor.g_fld ?_ | refine Cor.g_isN0 ?_ | refine Cor.g_isN1 ?_ | refine Cor.g_isN2 ?_ | refine Cor.g_notN0 ?_ | refine Cor.g_notN1 ?_ | refine Cor.g_notN2 ?_ | refine Cor.g_eqS ?_ | refine Cor.g_neS ?_ | refine Cor.g_raise ?_ | refine Cor.g_M1 ?_ | refine Cor.g_tryO ?_ | refine Cor.g_tryA ?_ | refine Cor.g_tryM ?_ | refine Cor.g_eqI ?_ | refine Cor.g_neI ?_ | refine Cor.g_next ?_ | refine Cor.g_yes ?_ | refine Cor.g_rng0 ?_ | refine Cor.g_rngS ?_ | refine Cor.g_lcr0 ?_ | refine Cor.g_lcrS ?_ | refine Cor.g_some ?_
    | refine Cor.g_sub ?_ | refine Cor.g_bm ?_ | refine Cor.g_bm0 ?_ | refine Cor.g_callS ?_ | refine Cor.g_dget ?_ | refine Cor.g_din ?_ | refine Cor.g_dnotin ?_ | refine Cor.g_dput ?_ | refine Cor.g_sl ?_ | refine Cor.g_part ?_ | refine Cor.g_nopart ?_ | refine Cor.g_brk ?_ | refine Cor.g_cont ?_ | refine Cor.g_meth ?_ | refine Cor.g_methT ?_ | refine Cor.g_sfld ?_ | refine Cor.g_lstRg ?_)
  | ((with_reducible refine' Cor.g_var ?e ?_); (case e => exact rfl))
  | ((with_reducible refine' Cor.g_name ?e ?_); (case e => exact rfl))
  | ((with_reducible refine Cor.g_new ?e ?_); (case e => exact rfl))
  | ((with_reducible refine Cor.g_wip ?e ?_); (case e => exact rfl))
  | ((with_reducible refine Cor.g_mod ?e ?_); (case e => first | decide | assumption | omega))
  | ((with_reducible refine Cor.g_div ?e ?f ?_); (case e => first | decide | assumption | omega); (case f => first | decide | assumption | omega)))
local macro_rules | `(tactic| walk_at "go") => `(tactic| repeat (walk_at "go1"))
local macro_rules | `(tactic| walk_at "nx") => `(tactic| repeat (with_reducible first
    | refine L2.iteT ?_ | refine L2.iteF ?_ | refine Cor.iteNT ?_ | refine Cor.iteNF ?_ | refine Cor.g_blV ?_ | refine Cor.g_next ?_ | refine Cor.g_isN0 ?_ | refine Cor.g_isN1 ?_ | refine Cor.g_isN2 ?_ | refine Cor.g_notN0 ?_ | refine Cor.g_notN1 ?_ | refine Cor.g_notN2 ?_))
/-! ### figures; the laws' cells, whole numbers -/
namespace Cor
open PySem PySem.Spec PyProof.Rows L2
/-- figures(number): a new list -/
def figs (n : Int) : List V := [.int (n / 100), .int (n / 10 % 10), .int (n % 10)]
def sp_figures (K : PySem.W.Frag) : Sp := fun vs H Q _ => ∃ n, vs = [.int n] ∧ ∀ p, H p = none → Q (.ref p) (upd H p (.lst (figs n)))
/-- figures: slots number -/
def t_figures (K : PySem.W.Frag) (E : XK) : TS :=
  tRet (tLst (tCons (tOp rDivI (tVar 0) (tC (.int 100))) (tCons (tOp rModI (tOp rDivI (tVar 0) (tC (.int 10))) (tC (.int 10))) (tCons (tOp rModI (tVar 0) (tC (.int 10))) tNil))))
abbrev n_figures : List Str := ["number"]

section
variable {K : PySem.W.Frag} {vs : List V} {H : Hp} {Q : VK} {E : XK}
theorem len_figures (h : sp_figures K vs H Q E) : vs.length = (["number"] : List Str).length := by
  obtain ⟨_, rfl, _⟩ := h
  rfl
end
theorem pure_figures (K : PySem.W.Frag) (vs : List V) (H : Hp) (Q : VK) (E : XK) (h : sp_figures K vs H Q E) : t_figures K E { nx := fun _ H' => Q .non H', rt := Q } (start n_figures vs) H := by
  obtain ⟨n, rfl, k⟩ := h
  unfold t_figures
  walk_at "go"
  exact k
/-- the laws' cell -/
def cell (ns : List Int) (k : Int) : Int := ns.getD k.toNat 0
def sp_law_cell_at (K : PySem.W.Frag) : Sp := fun vs H Q _ => ∃ a ns k, vs = [.ref a, .int k] ∧ SqL K H a (ns.map V.int) ∧ 0 ≤ k ∧ Q (.int (cell ns k)) H
/-- _law_cell_at: slots script, k -/
def t_law_cell_at (K : PySem.W.Frag) (E : XK) : TS :=
  tSeq (tIfS (tTest (tOp rLtI (tVar 1) (tCB (rLenL K) (tCons (tVar 0) tNil)))) (tRet (tOp (rIxL K) (tVar 0) (tVar 1))) tNext) (tRet (tC (.int 0)))
abbrev n_law_cell_at : List Str := ["script", "k"]

theorem len_law_cell_at {K : PySem.W.Frag} {vs : List V} {H : Hp} {Q : VK} {E : XK} (h : sp_law_cell_at K vs H Q E) : vs.length = (["script", "k"] : List Str).length := by
  obtain ⟨_, _, _, rfl, _⟩ := h
  rfl
theorem atI_map {ns : List Int} {k : Int} (h0 : 0 ≤ k) (h1 : k < ns.length) : atI (ns.map V.int) k = some (.int (cell ns k)) := by
  obtain ⟨j, rfl⟩ : ∃ j : Nat, k = (j : Int) := ⟨k.toNat, by omega⟩
  have hj : j < ns.length := by omega
  refine atI_nat ?_
  rw [List.getElem?_map, List.getElem?_eq_getElem hj]
  show some (V.int ns[j]) = some (V.int (cell ns (j : Int)))
  unfold cell
  rw [Int.toNat_natCast, List.getD_eq_getElem?_getD, List.getElem?_eq_getElem hj]
  rfl
theorem pure_law_cell_at (K : PySem.W.Frag) (vs : List V) (H : Hp) (Q : VK) (E : XK) (h : sp_law_cell_at K vs H Q E) : t_law_cell_at K E { nx := fun _ H' => Q .non H', rt := Q } (start n_law_cell_at vs) H := by
  obtain ⟨a, ns, k, rfl, hS, h0, q⟩ := h
  unfold t_law_cell_at
  walk_at "go"
  refine g_lenL hS ?_
  walk_at "go"
  refine g_iteD (fun hk => ?_) (fun hk => ?_)
  · rw [List.length_map] at hk
    walk_at "go"
    exact g_ixL hS (atI_map h0 hk) q
  · rw [List.length_map] at hk
    walk_at "go"
    have e : cell ns k = 0 := by
      unfold cell
      rw [List.getD_eq_getElem?_getD, List.getElem?_eq_none (by omega)]
      rfl
    rw [← e]
    exact q
/-- a whole number -/
def sp_law_whole (K : PySem.W.Frag) : Sp := fun vs H Q _ => ∃ i, vs = [.int i] ∧ Q (.bl true) H
/-- _law_whole: slots found -/
def t_law_whole (K : PySem.W.Frag) (E : XK) : TS :=
  tRet (tAndV (tCB (rIsi K) (tCons (tVar 0) (tCons (tC (.ty "int")) tNil))) (tNotV (tCB (rIsi K) (tCons (tVar 0) (tCons (tC (.ty "bool")) tNil)))))
abbrev n_law_whole : List Str := ["found"]

theorem len_law_whole {K : PySem.W.Frag} {vs : List V} {H : Hp} {Q : VK} {E : XK} (h : sp_law_whole K vs H Q E) : vs.length = (["found"] : List Str).length := by
  obtain ⟨_, rfl, _⟩ := h
  rfl
theorem tx_int {K : PySem.W.Frag} {H : Hp} {i : Int} : TyX K H (.int i) (.type "int") := .base (.int i)
theorem pure_law_whole (K : PySem.W.Frag) (vs : List V) (H : Hp) (Q : VK) (E : XK) (h : sp_law_whole K vs H Q E) : t_law_whole K E { nx := fun _ H' => Q .non H', rt := Q } (start n_law_whole vs) H := by
  obtain ⟨i, rfl, q⟩ := h
  unfold t_law_whole
  walk_at "go"
  refine g_isi (b := true) tx_int (show L2.kitB "int" "int" = some true by decide +kernel) ?_
  walk_at "go"
  refine g_isi (b := false) tx_int (show L2.kitB "int" "bool" = some false by decide +kernel) ?_
  walk_at "go"
  exact q
end Cor

/-! ## PuF -/
/-! ### knots: fits; the laws' own figures, drawn knots, knots compared -/
namespace Cor
open PySem PySem.Spec PyProof.Rows L2
/-- a figure that is lost, or the number's -/
def okF (a : Option Int) (f : Int) : Bool := match a with
  | none => true
  | some i => decide (i = f)
/-- the three figures -/
def fig (n : Int) : List Int := [n / 100, n / 10 % 10, n % 10]
theorem figs_eq (n : Int) : figs n = (fig n).map V.int := rfl
def fitsB (n : Int) (kn : List (Option Int)) : Bool := (kn.zip (fig n)).all fun p => okF p.1 p.2
abbrev KnAt (K : PySem.W.Frag) (H : Hp) (p : Addr) (kn : List (Option Int)) : Prop := SqL K H p (kn.map oV)
def sp_fits (K : PySem.W.Frag) : Sp := fun vs H Q _ => ∃ n p kn, vs = [.int n, .ref p] ∧ KnAt K H p kn ∧ kn.length = 3 ∧ ∀ H', Same H H' → Q (.bl (fitsB n kn)) H'
/-- fits: slots number, knots, own, place -/
def t_fits (K : PySem.W.Frag) (E : XK) : TS :=
  tSeq (tAsg (tCall (sp_figures K) [] E0 (tCons (tVar 0) tNil)) (gName 2)) (tSeq (tFor (iRng1 (tCons (tC (.int 3)) tNil)) (gName 3) (tIfS (tAnd (tTest (tOp rNotN (tOp (rIxL K) (tVar 1) (tVar 3)) (tC .non))) (tTest (tOp rNe (tOp (rIxL K) (tVar 1) (tVar 3)) (tOp (rIxL K) (tVar 2) (tVar 3))))) (tRet (tC (.bl false))) tNext)) (tRet (tC (.bl true))))
abbrev n_fits : List Str := ["number", "knots", "own", "place"]

theorem len_fits {K : PySem.W.Frag} {vs : List V} {H : Hp} {Q : VK} {E : XK} (h : sp_fits K vs H Q E) : vs.length = (["number", "knots"] : List Str).length := by
  obtain ⟨_, _, _, rfl, _⟩ := h
  rfl
theorem three {α : Type} {l : List α} (h : l.length = 3) : ∃ a b c, l = [a, b, c] := by
  match l, h with
  | [a, b, c], _ => exact ⟨a, b, c, rfl⟩
theorem pure_fits (K : PySem.W.Frag) (vs : List V) (H : Hp) (Q : VK) (E : XK) (h : sp_fits K vs H Q E) : t_fits K E { nx := fun _ H' => Q .non H', rt := Q } (start n_fits vs) H := by
  obtain ⟨n, p, kn, rfl, hk, h3, q⟩ := h
  obtain ⟨a, b, c, rfl⟩ := three h3
  unfold t_fits
  walk_at "go"
  refine ⟨n, rfl, fun o ho => ?_⟩
  walk_at "go"
  have hS : Same H (upd H o (.lst (figs n))) := same_new ho
  obtain ⟨H1, hH1⟩ : ∃ H1, H1 = upd H o (.lst (figs n)) := ⟨_, rfl⟩
  have hk1 : SqL K H1 p ([a, b, c].map oV) := by rw [hH1]; exact hS.seq hk
  have ho1 : SqL K H1 o (figs n) := SqL.of (by rw [hH1]; exact upd_same)
  rw [← hH1] at hS ⊢
  clear hH1 hk
  refine g_forR1 ?_
  walk_at "go"
  refine rng1_of (by decide) (by decide) ?_
  have turn : ∀ (rt : VK) (bk : L2.St → Hp → Prop) (x : Option Int) (f : Int) (k : Int) (w : Option V) (nxt : L2.St → Hp → Prop), atI ([a, b, c].map oV) k = some (oV x) → atI (figs n) k = some (.int f) →
      (okF x f = true → nxt [some (.int n), some (.ref p), some (.ref o), some (.int k)] H1) → (okF x f = false → rt (.bl false) H1) →
      gName 3 (.int k) [some (.int n), some (.ref p), some (.ref o), w] H1 fun σ2 H2 =>
        tIfS (tAnd (tTest (tOp rNotN (tOp (rIxL K) (tVar 1) (tVar 3)) (tC .non))) (tTest (tOp rNe (tOp (rIxL K) (tVar 1) (tVar 3)) (tOp (rIxL K) (tVar 2) (tVar 3))))) (tRet (tC (.bl false))) tNext { nx := nxt, rt := rt, bk := bk, ct := nxt } σ2 H2 := by
    intro rt bk x f k w nxt e1 e2 hy hn
    walk_at "go"
    refine g_ixL hk1 e1 ?_
    walk_at "go"
    cases x with
    | none =>
      walk_at "go"
      exact hy rfl
    | some i =>
      walk_at "go"
      refine g_ixL hk1 e1 ?_
      walk_at "go"
      refine g_ixL ho1 e2 ?_
      walk_at "go"
      refine g_iteN (fun h => ?_) (fun h => ?_)
      · walk_at "go"
        exact hn (decide_eq_false h)
      · walk_at "go"
        exact hy (decide_eq_true h)
  have e : fitsB n [a, b, c] = (okF a (n / 100) && (okF b (n / 10 % 10) && (okF c (n % 10) && true))) := rfl
  rw [e] at q
  refine turn _ _ a (n / 100) 0 _ _ rfl rfl (fun z1 => ?_) (fun z1 => by rw [z1] at q; exact q _ hS)
  refine turn _ _ b (n / 10 % 10) 1 _ _ rfl rfl (fun z2 => ?_) (fun z2 => by rw [z1, z2] at q; exact q _ hS)
  refine turn _ _ c (n % 10) 2 _ _ rfl rfl (fun z3 => ?_) (fun z3 => by rw [z1, z2, z3] at q; exact q _ hS)
  walk_at "go"
  rw [z1, z2, z3] at q
  exact q _ hS
/-- the laws' own figures: a new list -/
def sp_law_figures (K : PySem.W.Frag) : Sp := fun vs H Q _ => ∃ n, vs = [.int n] ∧ ∀ p, H p = none → Q (.ref p) (upd H p (.lst (figs n)))
/-- _law_figures: slots number -/
def t_law_figures (K : PySem.W.Frag) (E : XK) : TS :=
  tRet (tLst (tCons (tOp rDivI (tVar 0) (tC (.int 100))) (tCons (tOp rModI (tOp rDivI (tVar 0) (tC (.int 10))) (tC (.int 10))) (tCons (tOp rModI (tVar 0) (tC (.int 10))) tNil))))
abbrev n_law_figures : List Str := ["number"]

theorem len_law_figures {K : PySem.W.Frag} {vs : List V} {H : Hp} {Q : VK} {E : XK} (h : sp_law_figures K vs H Q E) : vs.length = (["number"] : List Str).length := by
  obtain ⟨_, rfl, _⟩ := h
  rfl
theorem pure_law_figures (K : PySem.W.Frag) (vs : List V) (H : Hp) (Q : VK) (E : XK) (h : sp_law_figures K vs H Q E) : t_law_figures K E { nx := fun _ H' => Q .non H', rt := Q } (start n_law_figures vs) H := by
  obtain ⟨n, rfl, k⟩ := h
  unfold t_law_figures
  walk_at "go"
  exact k
/-- the figures of a number, some lost -/
def drawn (c m : Int) : List (Option Int) :=
  [if m % 2 = 1 then none else some (c % 1000 / 100), if m / 2 % 2 = 1 then none else some (c % 1000 / 10 % 10), if m / 4 % 2 = 1 then none else some (c % 1000 % 10)]
/-- two lists of the same knots -/
def sp_law_knots (K : PySem.W.Frag) : Sp := fun vs H Q _ => ∃ p q kn, vs = [.ref p, .ref q] ∧ H p = some (.lst (kn.map oV)) ∧ KnAt K H q kn ∧ kn.length = 3 ∧ Q (.bl true) H
/-- _law_knots: slots found, due, k -/
def t_law_knots (K : PySem.W.Frag) (E : XK) : TS :=
  tSeq (tIfS (tOr (tNot (tB (tCB (rIsi K) (tCons (tVar 0) (tCons (tC (.ty "list")) tNil))))) (tTest (tOp rNe (tCB (rLenL K) (tCons (tVar 0) tNil)) (tC (.int 3))))) (tRet (tC (.bl false))) tNext) (tSeq (tFor (iRng1 (tCons (tC (.int 3)) tNil)) (gName 2) (tIfS (tTest (tOp rIsN (tOp (rIxL K) (tVar 1) (tVar 2)) (tC .non))) (tIfS (tTest (tOp rNotN (tOp (rIxL K) (tVar 0) (tVar 2)) (tC .non))) (tRet (tC (.bl false))) tNext) (tIfS (tOr (tNot (tB (tCall (sp_law_whole K) [] E0 (tCons (tOp (rIxL K) (tVar 0) (tVar 2)) tNil)))) (tTest (tOp rNe (tOp (rIxL K) (tVar 0) (tVar 2)) (tOp (rIxL K) (tVar 1) (tVar 2))))) (tRet (tC (.bl false))) tNext))) (tRet (tC (.bl true))))
abbrev n_law_knots : List Str := ["found", "due", "k"]

theorem len_law_knots {K : PySem.W.Frag} {vs : List V} {H : Hp} {Q : VK} {E : XK} (h : sp_law_knots K vs H Q E) : vs.length = (["found", "due"] : List Str).length := by
  obtain ⟨_, _, _, rfl, _⟩ := h
  rfl
theorem tx_lst {K : PySem.W.Frag} {H : Hp} {p : Addr} {xs : List V} (h : H p = some (.lst xs)) : TyX K H (.ref p) (.type "list") := .base (.lst h)
theorem pure_law_knots (K : PySem.W.Frag) (vs : List V) (H : Hp) (Q : VK) (E : XK) (h : sp_law_knots K vs H Q E) : t_law_knots K E { nx := fun _ H' => Q .non H', rt := Q } (start n_law_knots vs) H := by
  obtain ⟨p, r, kn, rfl, hp, hr, h3, q⟩ := h
  obtain ⟨a, b, c, rfl⟩ := three h3
  have hp' : SqL K H p ([a, b, c].map oV) := SqL.of hp
  unfold t_law_knots
  walk_at "go"
  refine g_isi (b := true) (tx_lst hp) (show L2.kitB "list" "list" = some true by decide +kernel) ?_
  walk_at "go"
  refine g_lenL (SqL.of hp) ?_
  walk_at "go"
  refine dec_NT rfl ?_
  walk_at "go"
  refine g_forR1 ?_
  walk_at "go"
  refine rng1_of (by decide) (by decide) ?_
  have turn : ∀ (rt : VK) (bk : L2.St → Hp → Prop) (x : Option Int) (k : Int) (w : Option V) (nxt : L2.St → Hp → Prop), atI ([a, b, c].map oV) k = some (oV x) → nxt [some (.ref p), some (.ref r), some (.int k)] H →
      gName 2 (.int k) [some (.ref p), some (.ref r), w] H fun σ2 H2 =>
        tIfS (tTest (tOp rIsN (tOp (rIxL K) (tVar 1) (tVar 2)) (tC .non))) (tIfS (tTest (tOp rNotN (tOp (rIxL K) (tVar 0) (tVar 2)) (tC .non))) (tRet (tC (.bl false))) tNext) (tIfS (tOr (tNot (tB (tCall (sp_law_whole K) [] E0 (tCons (tOp (rIxL K) (tVar 0) (tVar 2)) tNil)))) (tTest (tOp rNe (tOp (rIxL K) (tVar 0) (tVar 2)) (tOp (rIxL K) (tVar 1) (tVar 2))))) (tRet (tC (.bl false))) tNext) { nx := nxt, rt := rt, bk := bk, ct := nxt } σ2 H2 := by
    intro rt bk x k w nxt e1 hn
    walk_at "go"
    refine g_ixL hr e1 ?_
    walk_at "go"
    cases x with
    | none =>
      walk_at "go"
      refine g_ixL hp' e1 ?_
      walk_at "go"
      exact hn
    | some i =>
      walk_at "go"
      refine g_ixL hp' e1 ?_
      walk_at "go"
      refine ⟨i, rfl, ?_⟩
      walk_at "go"
      refine g_ixL hp' e1 ?_
      walk_at "go"
      refine g_ixL hr e1 ?_
      walk_at "go"
      refine dec_NT rfl ?_
      walk_at "go"
      exact hn
  refine turn _ _ a 0 _ _ rfl ?_
  refine turn _ _ b 1 _ _ rfl ?_
  refine turn _ _ c 2 _ _ rfl ?_
  walk_at "go"
  exact q
end Cor

/-! ## MTree -/
/-! ### rows of a book: plain -/
namespace Cor
section
variable {δ : Type}
abbrev RwD (δ : Type) := Option Int × δ × Int
abbrev RowsD (δ : Type) := List (Int × RwD δ)
def rget (R : RowsD δ) (k : Int) : Option (RwD δ) := (R.find? fun p => decide (p.1 = k)).map (·.2)
def rput (R : RowsD δ) (k : Int) (w : RwD δ) : RowsD δ := if (R.any fun p => decide (p.1 = k)) = true then R.map (fun p => if p.1 = k then (p.1, w) else p) else R ++ [(k, w)]
def keysR (R : RowsD δ) : List Int := R.map (·.1)
abbrev Asc (l : List Int) : Prop := l.Pairwise (· < ·)
theorem rget_nil {k : Int} : rget ([] : RowsD δ) k = none := rfl
theorem rget_pos {p : Int × RwD δ} {r : RowsD δ} {k : Int} (e : p.1 = k) : rget (p :: r) k = some p.2 := by simp [rget, List.find?_cons, e]
theorem rget_neg {p : Int × RwD δ} {r : RowsD δ} {k : Int} (e : ¬ p.1 = k) : rget (p :: r) k = rget r k := by simp [rget, List.find?_cons, e]
theorem rget_any (k : Int) : ∀ R : RowsD δ, (R.any fun p => decide (p.1 = k)) = (rget R k).isSome
  | [] => rfl
  | p :: r => by
    rw [List.any_cons]
    by_cases e : p.1 = k
    · simp only [rget_pos e, decide_eq_true e, Bool.true_or, Option.isSome_some]
    · rw [rget_neg e, decide_eq_false e, Bool.false_or]; exact rget_any k r
theorem rget_map (k : Int) (f : Int × RwD δ → RwD δ) : ∀ R : RowsD δ, rget (R.map fun p => (p.1, f p)) k = (rget R k).map fun w => f (k, w)
  | [] => rfl
  | p :: r => by
    rw [List.map_cons]
    by_cases e : p.1 = k
    · rw [rget_pos (p := (p.1, f p)) e, rget_pos e, Option.map_some, ← e]
    · rw [rget_neg (p := (p.1, f p)) e, rget_neg e]; exact rget_map k f r
theorem rget_snoc (k j : Int) (w : RwD δ) : ∀ R : RowsD δ, rget R k = none → rget (R ++ [(k, w)]) j = if j = k then some w else rget R j
  | [], _ => by
    by_cases e : k = j
    · rw [if_pos e.symm]; exact rget_pos (p := (k, w)) e
    · rw [if_neg (fun z => e z.symm)]; exact rget_neg (p := (k, w)) e
  | p :: r, hn => by
    rw [List.cons_append]
    have hk : ¬ p.1 = k := fun z => by rw [rget_pos z] at hn; cases hn
    rw [rget_neg hk] at hn
    have ih := rget_snoc k j w r hn
    by_cases e : p.1 = j
    · rw [rget_pos e, rget_pos e, if_neg (fun z => hk (e.trans z))]
    · rw [rget_neg e, rget_neg e, ih]
theorem rput_new {R : RowsD δ} {k : Int} {w : RwD δ} (h : rget R k = none) : rput R k w = R ++ [(k, w)] := by
  unfold rput
  rw [rget_any, h]
  exact if_neg (fun z => by cases z)
theorem rput_old {R : RowsD δ} {k : Int} {w z : RwD δ} (h : rget R k = some z) : rput R k w = R.map fun p => (p.1, if p.1 = k then w else p.2) := by
  unfold rput
  rw [rget_any, h]
  refine (if_pos rfl).trans (List.map_congr_left fun p _ => ?_)
  by_cases e : p.1 = k
  · rw [if_pos e, if_pos e]
  · rw [if_neg e, if_neg e]
theorem rget_put (R : RowsD δ) (k j : Int) (w : RwD δ) : rget (rput R k w) j = if j = k then some w else rget R j := by
  cases h : rget R k with
  | none => rw [rput_new h, rget_snoc k j w R h]
  | some z =>
    rw [rput_old h, rget_map]
    by_cases e : j = k
    · subst e; rw [h, Option.map_some, if_pos rfl, if_pos rfl]
    · rw [if_neg e]
      cases rget R j with
      | none => rfl
      | some x => rw [Option.map_some, if_neg e]
theorem keys_rput {R : RowsD δ} {k : Int} {w z : RwD δ} (h : rget R k = some z) : keysR (rput R k w) = keysR R := by
  rw [rput_old h]
  unfold keysR
  rw [List.map_map] <;> rfl
theorem mem_keys {R : RowsD δ} {k : Int} : k ∈ keysR R ↔ (rget R k).isSome = true := by
  rw [← rget_any, List.any_eq_true]
  unfold keysR
  rw [List.mem_map]
  exact ⟨fun ⟨p, hp, e⟩ => ⟨p, hp, decide_eq_true e⟩, fun ⟨p, hp, e⟩ => ⟨p, hp, of_decide_eq_true e⟩⟩
theorem rget_key {R : RowsD δ} {k : Int} {w : RwD δ} (h : rget R k = some w) : k ∈ keysR R := mem_keys.mpr (by rw [h] <;> rfl)
theorem key_rget {R : RowsD δ} {k : Int} (h : k ∈ keysR R) : ∃ w, rget R k = some w := Option.isSome_iff_exists.mp (mem_keys.mp h)
theorem rget_none {R : RowsD δ} {k : Int} : rget R k = none ↔ k ∉ keysR R := by
  rw [mem_keys]
  cases rget R k <;> simp
theorem rget_mem {R : RowsD δ} {k : Int} {w : RwD δ} (h : rget R k = some w) : (k, w) ∈ R := by
  unfold rget at h
  cases e : R.find? fun p => decide (p.1 = k) with
  | none => rw [e] at h; cases h
  | some p =>
    rw [e] at h
    have h1 : p.2 = w := Option.some.inj h
    have h2 : p.1 = k := by
      have h3 := List.find?_some e
      exact of_decide_eq_true h3
    have := List.mem_of_find?_eq_some e
    rw [← h1, ← h2]
    exact this
theorem asc_nodup {l : List Int} (h : Asc l) : l.Nodup := h.imp fun h => by omega
theorem mem_rget {R : RowsD δ} (hn : (keysR R).Nodup) {k : Int} {w : RwD δ} (h : (k, w) ∈ R) : rget R k = some w := by
  induction R with
  | nil => cases h
  | cons p r ih =>
    have hn' : (p.1 :: keysR r).Nodup := hn
    rw [List.nodup_cons] at hn'
    rcases List.mem_cons.mp h with rfl | h
    · exact rget_pos rfl
    · have : ¬ p.1 = k := by
        rintro rfl
        exact hn'.1 (List.mem_map.mpr ⟨_, h, rfl⟩)
      rw [rget_neg this]
      exact ih hn'.2 h
theorem keys_len (R : RowsD δ) : (keysR R).length = R.length := List.length_map _
/-! ### the line over a cord -/
inductive Line (R : RowsD δ) : Option Int → List Int → Prop
  | nil : Line R none []
  | cons {c : Int} {w : RwD δ} {L : List Int} : rget R c = some w → Line R w.1 L → Line R (some c) (c :: L)
theorem Line.det {R : RowsD δ} {o : Option Int} {L : List Int} (h : Line R o L) : ∀ {L' : List Int}, Line R o L' → L' = L := by
  induction h with
  | nil => intro L' h'; cases h'; rfl
  | cons e _ ih =>
    intro L' h'
    cases h' with
    | cons e' h'' =>
      rw [e] at e'
      cases e'
      rw [ih h'']
theorem Line.keys {R : RowsD δ} {o : Option Int} {L : List Int} (h : Line R o L) : ∀ x ∈ L, x ∈ keysR R := by
  induction h with
  | nil => intro x hx; cases hx
  | cons e _ ih =>
    intro x hx
    rcases List.mem_cons.mp hx with rfl | hx
    · exact rget_key e
    · exact ih x hx
/-- the line from a cord of the line on -/
theorem Line.from {R : RowsD δ} {o : Option Int} {L : List Int} (h : Line R o L) : ∀ x ∈ L, ∃ A B, L = A ++ x :: B ∧ Line R (some x) (x :: B) := by
  induction h with
  | nil => intro x hx; cases hx
  | @cons c w L e hl ih =>
    intro x hx
    by_cases q : x = c
    · subst q
      exact ⟨[], L, rfl, .cons e hl⟩
    · rcases List.mem_cons.mp hx with rfl | hx
      · exact absurd rfl q
      · obtain ⟨A, B, e1, h1⟩ := ih x hx
        exact ⟨c :: A, B, by rw [e1] <;> rfl, h1⟩
theorem Line.head {R : RowsD δ} {c : Int} {L : List Int} (h : Line R (some c) L) : c ∈ L := by
  cases h
  exact List.mem_cons_self
theorem Line.nodup {R : RowsD δ} {o : Option Int} {L : List Int} (h : Line R o L) : L.Nodup := by
  induction h with
  | nil => exact List.nodup_nil
  | @cons c w L e hl ih =>
    refine List.nodup_cons.mpr ⟨fun hm => ?_, ih⟩
    obtain ⟨A, B, e1, h1⟩ := hl.from c hm
    have e2 := (Line.cons e hl).det h1
    injection e2 with _ e2
    have l1 := congrArg List.length e1
    rw [e2, List.length_append, List.length_cons] at l1
    omega
theorem Line.trans {R : RowsD δ} {o : Option Int} {L L' : List Int} {x c : Int} (h : Line R o L) (hx : x ∈ L) (h' : Line R (some x) L') (hc : c ∈ L') : c ∈ L := by
  obtain ⟨A, B, e, h1⟩ := h.from x hx
  rw [h1.det h'] at hc
  rw [e]
  exact List.mem_append_right _ hc
/-- two cords over each other are one -/
theorem Line.anti {R : RowsD δ} {x c : Int} {L L' : List Int} (h : Line R (some x) L) (hc : c ∈ L) (h' : Line R (some c) L') (hx : x ∈ L') : x = c := by
  obtain ⟨A, B, e, h1⟩ := h.from c hc
  have e1 := h1.det h'
  rw [e1] at hx
  cases h with
  | @cons _ w L2 eg hl =>
    cases A with
    | nil => injection e
    | cons a A =>
      rw [List.cons_append] at e
      injection e with e2 e3
      have nd := (Line.cons eg hl).nodup
      rw [List.nodup_cons] at nd
      exact absurd (by rw [e3]; exact List.mem_append_right _ hx) nd.1
theorem nodup_len {l : List Int} : ∀ {m : List Int}, l.Nodup → (∀ x ∈ l, x ∈ m) → l.length ≤ m.length := by
  induction l with
  | nil => intro m _ _; exact Nat.zero_le _
  | cons a l ih =>
    intro m hn hs
    rw [List.nodup_cons] at hn
    have ha := hs a List.mem_cons_self
    have h1 : l.length ≤ (m.erase a).length := ih hn.2 fun x hx => by
      refine (List.mem_erase_of_ne ?_).mpr (hs x (List.mem_cons_of_mem _ hx))
      rintro rfl
      exact hn.1 hx
    rw [List.length_erase_of_mem ha] at h1
    have := List.length_pos_of_mem ha
    rw [List.length_cons]
    omega
theorem Line.len {R : RowsD δ} {o : Option Int} {L : List Int} (h : Line R o L) : L.length ≤ R.length := by
  rw [← keys_len]
  exact nodup_len h.nodup h.keys
def lineF (R : RowsD δ) : Nat → Option Int → List Int
  | _, none => []
  | 0, some _ => []
  | f + 1, some c => c :: (match rget R c with
    | none => []
    | some w => lineF R f w.1)
theorem lineF_eq {R : RowsD δ} {o : Option Int} {L : List Int} (h : Line R o L) : ∀ f, L.length ≤ f → lineF R f o = L := by
  induction h with
  | nil => intro f _; cases f <;> rfl
  | @cons c w L e hl ih =>
    intro f hf
    cases f with
    | zero => cases hf
    | succ f =>
      show c :: (match rget R c with | none => [] | some w => lineF R f w.1) = _
      rw [e]
      show c :: lineF R f w.1 = _
      rw [ih f (by rw [List.length_cons] at hf; omega)]
def lineR (R : RowsD δ) (o : Option Int) : List Int := lineF R R.length o
theorem Line.eq {R : RowsD δ} {o : Option Int} {L : List Int} (h : Line R o L) : lineR R o = L := lineF_eq h _ h.len
structure Wf (R : RowsD δ) : Prop where
  asc : Asc (keysR R)
  line : ∀ k ∈ keysR R, ∃ L, Line R (some k) L
theorem Wf.nd {R : RowsD δ} (h : Wf R) : (keysR R).Nodup := asc_nodup h.asc
theorem Wf.of {R : RowsD δ} (h : Wf R) {c : Int} {w : RwD δ} (e : rget R c = some w) : Line R (some c) (lineR R (some c)) := by
  obtain ⟨L, hL⟩ := h.line c (rget_key e)
  rw [hL.eq]
  exact hL
theorem Wf.over {R : RowsD δ} (h : Wf R) {c : Int} {w : RwD δ} (e : rget R c = some w) : Line R w.1 (lineR R w.1) := by
  have h1 := h.of e
  generalize lineR R (some c) = L at h1
  cases h1 with
  | cons e' hl =>
    rw [e] at e'
    cases e'
    rw [hl.eq]
    exact hl
theorem Wf.lineC {R : RowsD δ} (h : Wf R) {c : Int} {w : RwD δ} (e : rget R c = some w) : lineR R (some c) = c :: lineR R w.1 := (Line.cons e (h.over e)).eq
theorem Wf.none {R : RowsD δ} : Line R none (lineR R none) := by
  rw [Line.nil.eq]
  exact .nil
/-- an over is there -/
theorem Wf.over_in {R : RowsD δ} (h : Wf R) {c o : Int} {w : RwD δ} (e : rget R c = some w) (ho : w.1 = some o) : ∃ z, rget R o = some z := by
  have h1 := h.over e
  rw [ho] at h1
  generalize lineR R (some o) = L at h1
  cases h1 with
  | cons e' _ => exact ⟨_, e'⟩
/-! ### those that hang -/
def hangR (R : RowsD δ) (o : Option Int) : List Int := (R.filter fun p => decide (p.2.1 = o)).map (·.1)
theorem mem_hang {R : RowsD δ} (hn : (keysR R).Nodup) {o : Option Int} {h : Int} : h ∈ hangR R o ↔ ∃ w, rget R h = some w ∧ w.1 = o := by
  unfold hangR
  rw [List.mem_map]
  constructor
  · rintro ⟨p, hp, rfl⟩
    rw [List.mem_filter] at hp
    exact ⟨p.2, mem_rget hn hp.1, of_decide_eq_true hp.2⟩
  · rintro ⟨w, e, ho⟩
    exact ⟨(h, w), List.mem_filter.mpr ⟨rget_mem e, decide_eq_true ho⟩, rfl⟩
theorem hang_sub {R : RowsD δ} {o : Option Int} : List.Sublist (hangR R o) (keysR R) := List.Sublist.map _ List.filter_sublist
theorem hang_asc {R : RowsD δ} (h : Asc (keysR R)) {o : Option Int} : Asc (hangR R o) := h.sublist hang_sub
theorem hang_len {R : RowsD δ} {o : Option Int} : (hangR R o).length ≤ R.length := by
  rw [← keys_len]
  exact hang_sub.length_le
/-! ### beneath -/
def Under (R : RowsD δ) (c y : Int) : Prop := ∃ L, Line R (some y) L ∧ c ∈ L
theorem under_iff {R : RowsD δ} (h : Wf R) {c y : Int} (hy : y ∈ keysR R) : Under R c y ↔ c ∈ lineR R (some y) := by
  obtain ⟨w, e⟩ := key_rget hy
  exact ⟨fun ⟨L, h1, h2⟩ => by rw [h1.eq]; exact h2, fun h2 => ⟨_, h.of e, h2⟩⟩
theorem Under.key {R : RowsD δ} {c y : Int} (h : Under R c y) : y ∈ keysR R := by
  obtain ⟨L, h1, h2⟩ := h
  exact h1.keys y h1.head
theorem Under.refl {R : RowsD δ} (h : Wf R) {c : Int} (hc : c ∈ keysR R) : Under R c c := by
  obtain ⟨L, h1⟩ := h.line c hc
  exact ⟨L, h1, h1.head⟩
theorem Under.hang {R : RowsD δ} (h : Wf R) {c x y : Int} (hx : Under R c x) (hy : y ∈ hangR R (some x)) : Under R c y := by
  obtain ⟨w, e, ho⟩ := (mem_hang h.nd).mp hy
  obtain ⟨L, h1, h2⟩ := hx
  exact ⟨y :: L, .cons e (by rw [ho]; exact h1), List.mem_cons_of_mem _ h2⟩
/-- a closed list holds all that is beneath -/
theorem closed_all {R : RowsD δ} (h : Wf R) {c : Int} {S : List Int} (hc : c ∈ S) (hS : ∀ x ∈ S, ∀ y ∈ hangR R (some x), y ∈ S) {y : Int} (hy : Under R c y) : y ∈ S := by
  obtain ⟨L, h1, h2⟩ := hy
  have key : ∀ {o : Option Int} {L : List Int}, Line R o L → c ∈ L → ∀ y, o = some y → y ∈ S := by
    intro o L hl
    induction hl with
    | nil => intro h2; cases h2
    | @cons x w L e hl ih =>
      intro h2 y ey
      cases ey
      by_cases q : x = c
      · rw [q]; exact hc
      · rcases List.mem_cons.mp h2 with rfl | h2
        · exact absurd rfl q
        · cases ew : w.1 with
          | none => rw [ew] at hl; cases hl; cases h2
          | some z => exact hS z (ih h2 z ew) x ((mem_hang h.nd).mpr ⟨w, e, ew⟩)
  exact key h1 h2 y rfl
def underL (R : RowsD δ) (c : Int) : List Int := (keysR R).filter fun y => decide (c ∈ lineR R (some y))
theorem mem_underL {R : RowsD δ} (h : Wf R) {c y : Int} : y ∈ underL R c ↔ Under R c y := by
  unfold underL
  rw [List.mem_filter]
  constructor
  · rintro ⟨h1, h2⟩
    exact (under_iff h h1).mpr (of_decide_eq_true h2)
  · intro hu
    exact ⟨hu.key, decide_eq_true ((under_iff h hu.key).mp hu)⟩
theorem underL_asc {R : RowsD δ} (h : Asc (keysR R)) {c : Int} : Asc (underL R c) := h.sublist List.filter_sublist
end
end Cor

/-! ## MBook -/
/-! ### a book's deeds: plain -/
namespace Cor
section
variable {δ : Type}
/-! beneath, breadth first -/
structure BInv (R : RowsD δ) (c : Int) (done todo : List Int) : Prop where
  nd : (done ++ todo).Nodup
  un : ∀ y ∈ done ++ todo, Under R c y
  hd : c ∈ done ++ todo
  cl : ∀ x ∈ done, ∀ y ∈ hangR R (some x), y ∈ done ++ todo
  fr : ∀ y ∈ done ++ todo, y = c ∨ ∃ x ∈ done, y ∈ hangR R (some x)
theorem BInv.start {R : RowsD δ} (h : Wf R) {c : Int} (hc : c ∈ keysR R) : BInv R c [] [c] :=
  ⟨by simp, fun y hy => by rw [List.mem_singleton.mp hy]; exact Under.refl h hc, List.mem_singleton.mpr rfl, fun x hx => by (cases hx), fun y hy => .inl (List.mem_singleton.mp hy)⟩
theorem BInv.step {R : RowsD δ} (h : Wf R) {c x : Int} {done r : List Int} (b : BInv R c done (x :: r)) : BInv R c (done ++ [x]) (r ++ hangR R (some x)) := by
  have e : (done ++ [x]) ++ (r ++ hangR R (some x)) = (done ++ x :: r) ++ hangR R (some x) := by simp
  have hx : x ∈ done ++ x :: r := by simp
  refine ⟨?_, ?_, ?_, ?_, ?_⟩
  · rw [e]
    refine List.nodup_append.mpr ⟨b.nd, asc_nodup (hang_asc h.asc), ?_⟩
    rintro y hy z hz rfl
    obtain ⟨w, ew, ho⟩ := (mem_hang h.nd).mp hz
    rcases b.fr y hy with rfl | ⟨x', hx', hy'⟩
    · obtain ⟨L, h1, h2⟩ := b.un x hx
      have h3 : Line R (some y) (y :: L) := .cons ew (by rw [ho]; exact h1)
      have q := h1.anti h2 h3 (List.mem_cons_of_mem _ h1.head)
      subst q
      have := h3.nodup
      rw [List.nodup_cons] at this
      exact this.1 h2
    · obtain ⟨w', ew', ho'⟩ := (mem_hang h.nd).mp hy'
      rw [ew] at ew'
      cases ew'
      have q : x = x' := Option.some.inj (ho.symm.trans ho')
      subst q
      exact (List.nodup_append.mp b.nd).2.2 x hx' x List.mem_cons_self rfl
  · rw [e]
    intro y hy
    rcases List.mem_append.mp hy with hy | hy
    · exact b.un y hy
    · exact (b.un x hx).hang h hy
  · rw [e]
    exact List.mem_append_left _ b.hd
  · rw [e]
    intro z hz y hy
    rcases List.mem_append.mp hz with hz | hz
    · exact List.mem_append_left _ (b.cl z hz y hy)
    · rw [List.mem_singleton.mp hz] at hy
      exact List.mem_append_right _ hy
  · rw [e]
    intro y hy
    rcases List.mem_append.mp hy with hy | hy
    · rcases b.fr y hy with q | ⟨z, hz, q⟩
      · exact .inl q
      · exact .inr ⟨z, List.mem_append_left _ hz, q⟩
    · exact .inr ⟨x, List.mem_append_right _ (List.mem_singleton.mpr rfl), hy⟩
theorem BInv.len {R : RowsD δ} {c : Int} {done todo : List Int} (b : BInv R c done todo) : done.length + todo.length ≤ R.length := by
  rw [← keys_len, ← List.length_append]
  exact nodup_len b.nd fun x hx => (b.un x hx).key
theorem BInv.fin {R : RowsD δ} (h : Wf R) {c : Int} {done : List Int} (b : BInv R c done []) : done.Nodup ∧ ∀ y, y ∈ done ↔ Under R c y := by
  have nd := b.nd
  have hd := b.hd
  have cl := b.cl
  rw [List.append_nil] at nd hd
  refine ⟨nd, fun y => ⟨fun hy => b.un y (List.mem_append_left _ hy), fun hy => ?_⟩⟩
  exact closed_all h hd (fun x hx y hy => by have := cl x hx y hy; rw [List.append_nil] at this; exact this) hy
/-! what depends on the overs alone -/
def shape (R : RowsD δ) : List (Int × Option Int) := R.map fun p => (p.1, p.2.1)
theorem shape_keys {δ' : Type} {R : RowsD δ} {R' : RowsD δ'} (e : shape R = shape R') : keysR R = keysR R' := by
  have h : ∀ {α : Type} (S : RowsD α), keysR S = (shape S).map (·.1) := fun S => by
    unfold shape keysR
    rw [List.map_map] <;> rfl
  rw [h, h, e]
theorem shape_hang {δ' : Type} {R : RowsD δ} {R' : RowsD δ'} (e : shape R = shape R') (o : Option Int) : hangR R o = hangR R' o := by
  have h : ∀ {α : Type} (S : RowsD α), hangR S o = ((shape S).filter fun p => decide (p.2 = o)).map (·.1) := fun S => by
    unfold shape hangR
    induction S with
    | nil => rfl
    | cons p r ih =>
      rw [List.map_cons, List.filter_cons, List.filter_cons]
      by_cases q : p.2.1 = o
      · rw [if_pos (decide_eq_true q), if_pos (decide_eq_true q), List.map_cons, List.map_cons, ih]
      · rw [if_neg (by rw [decide_eq_false q]; exact Bool.false_ne_true), if_neg (by rw [decide_eq_false q]; exact Bool.false_ne_true), ih]
  rw [h, h, e]
theorem shape_over {δ' : Type} {R : RowsD δ} {R' : RowsD δ'} (e : shape R = shape R') (k : Int) : (rget R k).map (·.1) = (rget R' k).map (·.1) := by
  induction R generalizing R' with
  | nil =>
    cases R' with
    | nil => rfl
    | cons p r => cases e
  | cons p r ih =>
    cases R' with
    | nil => cases e
    | cons p' r' =>
      have e1 : (p.1, p.2.1) = (p'.1, p'.2.1) := (List.cons.inj e).1
      have e2 : shape r = shape r' := (List.cons.inj e).2
      injection e1 with e3 e4
      by_cases q : p.1 = k
      · rw [rget_pos q, rget_pos (e3.symm.trans q), Option.map_some, Option.map_some, e4]
      · rw [rget_neg q, rget_neg (fun z => q (e3.trans z)), ih e2]
theorem shape_line {δ' : Type} {R : RowsD δ} {R' : RowsD δ'} (e : shape R = shape R') {o : Option Int} {L : List Int} (h : Line R o L) : Line R' o L := by
  induction h with
  | nil => exact .nil
  | @cons c w L eg hl ih =>
    have h1 := shape_over e c
    rw [eg] at h1
    cases eg' : rget R' c with
    | none => rw [eg'] at h1; cases h1
    | some w' =>
      rw [eg'] at h1
      have h2 : w.1 = w'.1 := Option.some.inj h1
      exact .cons eg' (by rw [← h2]; exact ih)
theorem shape_wf {δ' : Type} {R : RowsD δ} {R' : RowsD δ'} (e : shape R = shape R') (h : Wf R) : Wf R' := by
  have ek := shape_keys e
  refine ⟨by rw [← ek]; exact h.asc, fun k hk => ?_⟩
  rw [← ek] at hk
  obtain ⟨L, hL⟩ := h.line k hk
  exact ⟨L, shape_line e hL⟩
theorem shape_len {δ' : Type} {R : RowsD δ} {R' : RowsD δ'} (e : shape R = shape R') : R.length = R'.length := by
  rw [← keys_len, ← keys_len, shape_keys e]
/-! an amount for some -/
def numR (R : RowsD δ) (x : Int) : Int := match rget R x with
  | some w => w.2.2
  | none => 0
def addR (w : RwD δ) (a : Int) : RwD δ := (w.1, w.2.1, w.2.2 + a)
def growR (R : RowsD δ) (L : List Int) (a : Int) : RowsD δ := R.map fun p => (p.1, if p.1 ∈ L then addR p.2 a else p.2)
theorem grow_nil (R : RowsD δ) (a : Int) : growR R [] a = R := by
  unfold growR
  refine (List.map_congr_left fun p _ => ?_).trans (List.map_id _)
  rw [if_neg (by simp)] <;> rfl
theorem grow_cons {R : RowsD δ} {x : Int} {L : List Int} {a : Int} {w : RwD δ} (e : rget R x = some w) (hn : (keysR R).Nodup) (hx : x ∉ L) : growR (rput R x (addR w a)) L a = growR R (x :: L) a := by
  rw [rput_old e]
  unfold growR
  rw [List.map_map]
  refine List.map_congr_left fun p hp => ?_
  show (p.1, if p.1 ∈ L then addR (if p.1 = x then addR w a else p.2) a else (if p.1 = x then addR w a else p.2)) = _
  by_cases q : p.1 = x
  · have e2 : p.2 = w := by
      have := mem_rget hn (k := p.1) (w := p.2) hp
      rw [q, e] at this
      exact (Option.some.inj this).symm
    rw [q, if_neg hx, if_pos rfl, if_pos List.mem_cons_self, e2]
  · rw [if_neg q]
    by_cases m : p.1 ∈ L
    · rw [if_pos m, if_pos (List.mem_cons_of_mem _ m)]
    · rw [if_neg m, if_neg (fun z => (List.mem_cons.mp z).elim q m)]
theorem shape_grow (R : RowsD δ) (L : List Int) (a : Int) : shape (growR R L a) = shape R := by
  unfold shape growR
  rw [List.map_map]
  refine List.map_congr_left fun p _ => ?_
  show (p.1, (if p.1 ∈ L then addR p.2 a else p.2).1) = _
  split <;> rfl
theorem rget_grow (R : RowsD δ) (L : List Int) (a : Int) (k : Int) : rget (growR R L a) k = (rget R k).map fun w => if k ∈ L then addR w a else w := rget_map k _ R
theorem num_grow {R : RowsD δ} {L : List Int} {a : Int} {k : Int} {w : RwD δ} (e : rget R k = some w) : numR (growR R L a) k = numR R k + if k ∈ L then a else 0 := by
  unfold numR
  rw [rget_grow, e]
  show (if k ∈ L then addR w a else w).2.2 = w.2.2 + _
  split
  · rfl
  · rw [Int.add_zero]
/-! the book -/
structure Bs (δ : Type) where
  R : RowsD δ
  fol : Int
  past : List (Int × RowsD δ)
structure Ok1 (R : RowsD δ) (f : Int) : Prop where
  wf : Wf R
  lo : ∀ k ∈ keysR R, 0 ≤ k ∧ k < f
structure OkB (s : Bs δ) : Prop where
  now : Ok1 s.R s.fol
  past : ∀ p ∈ s.past, Ok1 p.2 p.1
  f0 : 0 ≤ s.fol
  fp : ∀ p ∈ s.past, 0 ≤ p.1
theorem asc_len {l : List Int} : ∀ {a b : Int}, Asc l → (∀ k ∈ l, a ≤ k ∧ k < b) → l.length ≤ (b - a).toNat := by
  induction l with
  | nil => intro a b _ _; exact Nat.zero_le _
  | cons x l ih =>
    intro a b h hl
    have h1 := hl x List.mem_cons_self
    have hp := List.pairwise_cons.mp h
    have := ih (a := x + 1) (b := b) hp.2 fun k hk => ⟨hp.1 k hk, (hl k (List.mem_cons_of_mem _ hk)).2⟩
    rw [List.length_cons]
    omega
theorem Ok1.len {R : RowsD δ} {f : Int} (h : Ok1 R f) : R.length ≤ f.toNat := by
  rw [← keys_len]
  have := asc_len h.wf.asc h.lo
  rw [Int.sub_zero] at this
  exact this
theorem Ok1.new {R : RowsD δ} {f : Int} (h : Ok1 R f) : rget R f = none := by
  rw [rget_none]
  intro hf
  have := (h.lo f hf).2
  omega
def keep (s : Bs δ) (R' : RowsD δ) : Bs δ := ⟨R', s.fol, s.past ++ [(s.fol, s.R)]⟩
/-! hanging -/
def hangOk (s : Bs δ) (o : Option Int) (d : δ) : Bs δ := ⟨s.R ++ [(s.fol, (o, d, 0))], s.fol + 1, s.past ++ [(s.fol, s.R)]⟩
def hangB (s : Bs δ) (o : Option Int) (d : δ) : Except String (Int × Bs δ) := match o with
  | none => .ok (s.fol, hangOk s o d)
  | some c => (match rget s.R c with
    | none => .error "NoCord"
    | some w => if hangR s.R (some c) = [] ∧ w.2.2 ≠ 0 then .error "Knotted" else .ok (s.fol, hangOk s o d))
theorem Line.snoc {R : RowsD δ} {f : Int} {w : RwD δ} (hf : rget R f = none) {o : Option Int} {L : List Int} (h : Line R o L) : Line (R ++ [(f, w)]) o L := by
  induction h with
  | nil => exact .nil
  | @cons c z L e hl ih =>
    refine .cons (w := z) ?_ ih
    rw [rget_snoc f c w R hf, if_neg (fun q => by rw [q, hf] at e; cases e)]
    exact e
theorem keys_snoc (R : RowsD δ) (f : Int) (w : RwD δ) : keysR (R ++ [(f, w)]) = keysR R ++ [f] := by
  unfold keysR
  rw [List.map_append] <;> rfl
theorem Ok1.hang {R : RowsD δ} {f : Int} (h : Ok1 R f) (f0 : 0 ≤ f) {w : RwD δ} (ho : ∀ c, w.1 = some c → ∃ z, rget R c = some z) : Ok1 (R ++ [(f, w)]) (f + 1) := by
  refine ⟨⟨?_, ?_⟩, ?_⟩
  · rw [keys_snoc]
    refine List.pairwise_append.mpr ⟨h.wf.asc, by simp, fun a ha b hb => ?_⟩
    rw [List.mem_singleton.mp hb]
    exact (h.lo a ha).2
  · intro k hk
    rw [keys_snoc] at hk
    rcases List.mem_append.mp hk with hk | hk
    · obtain ⟨L, hL⟩ := h.wf.line k hk
      exact ⟨L, hL.snoc h.new⟩
    · rw [List.mem_singleton.mp hk]
      cases e : w.1 with
      | none => exact ⟨[f], .cons (w := w) (by rw [rget_snoc f f w R h.new, if_pos rfl]) (by rw [e]; exact .nil)⟩
      | some c =>
        obtain ⟨z, hz⟩ := ho c e
        obtain ⟨L, hL⟩ := h.wf.line c (rget_key hz)
        exact ⟨f :: L, .cons (w := w) (by rw [rget_snoc f f w R h.new, if_pos rfl]) (by rw [e]; exact hL.snoc h.new)⟩
  · intro k hk
    rw [keys_snoc] at hk
    rcases List.mem_append.mp hk with hk | hk
    · have := h.lo k hk
      omega
    · rw [List.mem_singleton.mp hk]
      omega
theorem OkB.kept {s : Bs δ} (h : OkB s) {R' : RowsD δ} (h' : Ok1 R' s.fol) : OkB (keep s R') := by
  refine ⟨h', fun p hp => ?_, h.f0, fun p hp => ?_⟩
  · rcases List.mem_append.mp hp with hp | hp
    · exact h.past p hp
    · rw [List.mem_singleton.mp hp]; exact h.now
  · rcases List.mem_append.mp hp with hp | hp
    · exact h.fp p hp
    · rw [List.mem_singleton.mp hp]; exact h.f0
theorem OkB.hangOk {s : Bs δ} (h : OkB s) {o : Option Int} {d : δ} (ho : ∀ c, o = some c → ∃ z, rget s.R c = some z) : OkB (hangOk s o d) := by
  refine ⟨h.now.hang h.f0 ho, fun p hp => ?_, Int.le_trans h.f0 (by show s.fol ≤ s.fol + 1; omega), fun p hp => ?_⟩
  · rcases List.mem_append.mp hp with hp | hp
    · exact h.past p hp
    · rw [List.mem_singleton.mp hp]; exact h.now
  · rcases List.mem_append.mp hp with hp | hp
    · exact h.fp p hp
    · rw [List.mem_singleton.mp hp]; exact h.f0
theorem hangB_ok {s s' : Bs δ} (h : OkB s) {o : Option Int} {d : δ} {n : Int} (e : hangB s o d = .ok (n, s')) : OkB s' ∧ n = s.fol ∧ s' = Cor.hangOk s o d := by
  unfold hangB at e
  split at e
  · cases e
    exact ⟨h.hangOk fun c z => (by cases z), rfl, rfl⟩
  · rename_i c
    split at e
    · cases e
    · rename_i w ew
      split at e
      · cases e
      · cases e
        exact ⟨h.hangOk fun c' z => (by cases z; exact ⟨w, ew⟩), rfl, rfl⟩
/-! laying -/
def layX (R : RowsD δ) (c a : Int) : Option String := match rget R c with
  | none => some "NoCord"
  | some _ => if hangR R (some c) ≠ [] then some "NotEnd" else
    if ∃ x ∈ lineR R (some c), ¬ (0 ≤ numR R x + a ∧ numR R x + a ≤ 999) then some "TooMuch" else none
def layB (s : Bs δ) (c a : Int) : Except String (Int × Bs δ) := match layX s.R c a with
  | some x => .error x
  | none => .ok (numR s.R c + a, keep s (growR s.R (lineR s.R (some c)) a))
theorem layX_none {R : RowsD δ} {c a : Int} (e : rget R c = none) : layX R c a = some "NoCord" := by
  unfold layX
  rw [e]
theorem layX_some {R : RowsD δ} {c a : Int} {w : RwD δ} (e : rget R c = some w) : layX R c a = if hangR R (some c) ≠ [] then some "NotEnd" else
    if ∃ x ∈ lineR R (some c), ¬ (0 ≤ numR R x + a ∧ numR R x + a ≤ 999) then some "TooMuch" else none := by
  unfold layX
  rw [e]
theorem numR_some {R : RowsD δ} {c : Int} {w : RwD δ} (e : rget R c = some w) : numR R c = w.2.2 := by
  unfold numR
  rw [e]
theorem layX_ok {R : RowsD δ} {c a : Int} (e : layX R c a = none) : (∃ w, rget R c = some w) ∧ hangR R (some c) = [] ∧ ∀ x ∈ lineR R (some c), 0 ≤ numR R x + a ∧ numR R x + a ≤ 999 := by
  cases h : rget R c with
  | none => rw [layX_none h] at e; cases e
  | some w =>
    rw [layX_some h] at e
    split at e
    · cases e
    · rename_i h1
      split at e
      · cases e
      · rename_i h2
        exact ⟨⟨w, rfl⟩, Decidable.of_not_not h1, fun x hx => Decidable.of_not_not fun z => h2 ⟨x, hx, z⟩⟩
theorem Ok1.shp {R R' : RowsD δ} {f : Int} (h : Ok1 R f) (e : shape R = shape R') : Ok1 R' f := ⟨shape_wf e h.wf, by rw [← shape_keys e]; exact h.lo⟩
theorem layB_ok {s s' : Bs δ} (h : OkB s) {c a n : Int} (e : layB s c a = .ok (n, s')) : OkB s' ∧ layX s.R c a = none ∧ n = numR s.R c + a ∧ s' = keep s (growR s.R (lineR s.R (some c)) a) := by
  unfold layB at e
  split at e
  · cases e
  · rename_i hx
    cases e
    exact ⟨h.kept (h.now.shp (shape_grow _ _ _).symm), hx, rfl, rfl⟩
/-! moving -/
def moveR (R : RowsD δ) (c : Int) (p : Option Int) (w : RwD δ) : RowsD δ := rput (growR (growR R (lineR R w.1) (-w.2.2)) (lineR R p) w.2.2) c (p, w.2.1, w.2.2)
/-- what the place says against it -/
def moveX (s : Bs δ) (c : Int) : Option Int → Option String
  | none => none
  | some q => (match rget s.R q with
    | none => some "NoCord"
    | some z => if c ∈ lineR s.R (some q) then some "Ring" else if hangR s.R (some q) = [] ∧ z.2.2 ≠ 0 then some "Knotted" else none)
def moveB (s : Bs δ) (c : Int) (p : Option Int) : Except String (Int × Bs δ) := match rget s.R c with
  | none => .error "NoCord"
  | some w => (match moveX s c p with
    | some x => .error x
    | none => if ∃ x ∈ lineR s.R p, x ∉ lineR s.R w.1 ∧ numR s.R x + w.2.2 > 999 then .error "TooMuch" else .ok (w.2.2, keep s (moveR s.R c p w)))
theorem moveB_eq {s : Bs δ} {c : Int} {p : Option Int} {w : RwD δ} (e : rget s.R c = some w) : moveB s c p = (match moveX s c p with
    | some x => .error x
    | none => if ∃ x ∈ lineR s.R p, x ∉ lineR s.R w.1 ∧ numR s.R x + w.2.2 > 999 then .error "TooMuch" else .ok (w.2.2, keep s (moveR s.R c p w))) := by
  unfold moveB
  rw [e]
theorem moveX_none {s : Bs δ} {c q : Int} (e : rget s.R q = none) : moveX s c (some q) = some "NoCord" := by
  unfold moveX
  dsimp only
  rw [e]
theorem moveX_some {s : Bs δ} {c q : Int} {z : RwD δ} (e : rget s.R q = some z) : moveX s c (some q) = if c ∈ lineR s.R (some q) then some "Ring" else if hangR s.R (some q) = [] ∧ z.2.2 ≠ 0 then some "Knotted" else none := by
  unfold moveX
  dsimp only
  rw [e]
/-- a place that nothing is said against -/
theorem moveX_free {s : Bs δ} {c : Int} {p : Option Int} (e : moveX s c p = none) (h : Wf s.R) : Line s.R p (lineR s.R p) ∧ c ∉ lineR s.R p := by
  cases p with
  | none => rw [Line.nil.eq]; exact ⟨.nil, by simp⟩
  | some q =>
    cases eq : rget s.R q with
    | none => rw [moveX_none eq] at e; cases e
    | some z =>
      rw [moveX_some eq] at e
      split at e
      · cases e
      · rename_i hc
        exact ⟨h.of eq, hc⟩
def moveE (s : Bs δ) (c : Int) (p : Option Int) : Option String := match moveB s c p with
  | .error x => some x
  | .ok _ => none
theorem moveE_some {s : Bs δ} {c : Int} {p : Option Int} {x : String} (e : moveE s c p = some x) : moveB s c p = .error x := by
  unfold moveE at e
  split at e
  · rename_i h; cases e; exact h
  · cases e
theorem moveE_err {s : Bs δ} {c : Int} {p : Option Int} {x : String} (e : moveB s c p = .error x) : moveE s c p = some x := by
  unfold moveE
  rw [e]
theorem moveE_ok {s : Bs δ} {c : Int} {p : Option Int} {r : Int × Bs δ} (e : moveB s c p = .ok r) : moveE s c p = none := by
  unfold moveE
  rw [e]
theorem moveE_is {s : Bs δ} {c : Int} {p : Option Int} {x : String} (e : moveE s c p = some x) : x = "NoCord" ∨ x = "Ring" ∨ x = "Knotted" ∨ x = "TooMuch" := by
  have e := moveE_some e
  cases h : rget s.R c with
  | none =>
    unfold moveB at e
    rw [h] at e
    cases e
    exact .inl rfl
  | some w =>
    rw [moveB_eq h] at e
    cases hp : moveX s c p with
    | some y =>
      rw [hp] at e
      cases e
      cases p with
      | none => cases hp
      | some q =>
        cases hq : rget s.R q with
        | none => rw [moveX_none hq] at hp; cases hp; exact .inl rfl
        | some z =>
          rw [moveX_some hq] at hp
          split at hp
          · cases hp; exact .inr (.inl rfl)
          · split at hp
            · cases hp; exact .inr (.inr (.inl rfl))
            · cases hp
    | none =>
      rw [hp] at e
      dsimp only at e
      split at e
      · cases e; exact .inr (.inr (.inr rfl))
      · cases e
/-- a line that does not hold c, when c is stored anew -/
theorem Line.putOff {R : RowsD δ} {c : Int} {w : RwD δ} {o : Option Int} {L : List Int} (h : Line R o L) : c ∉ L → Line (rput R c w) o L := by
  induction h with
  | nil => intro _; exact .nil
  | @cons x z L e hl ih =>
    intro hc
    rw [List.mem_cons, not_or] at hc
    refine .cons (w := z) ?_ (ih hc.2)
    rw [rget_put, if_neg (Ne.symm hc.1)]
    exact e
theorem Wf.put {R : RowsD δ} (h : Wf R) {c : Int} {w z : RwD δ} (e : rget R c = some z) {L : List Int} (hL : Line R w.1 L) (hc : c ∉ L) : Wf (rput R c w) := by
  refine ⟨by rw [keys_rput e]; exact h.asc, fun k hk => ?_⟩
  rw [keys_rput e] at hk
  obtain ⟨L1, h1⟩ := h.line k hk
  have key : ∀ {o : Option Int} {L1 : List Int}, Line R o L1 → ∃ L', Line (rput R c w) o L' := by
    intro o L1 h1
    induction h1 with
    | nil => exact ⟨[], .nil⟩
    | @cons x y L2 ex hl ih =>
      by_cases q : x = c
      · subst q
        exact ⟨x :: L, .cons (w := w) (by rw [rget_put, if_pos rfl]) (hL.putOff hc)⟩
      · obtain ⟨L', h'⟩ := ih
        exact ⟨x :: L', .cons (w := y) (by rw [rget_put, if_neg q]; exact ex) h'⟩
  exact key h1
theorem grow_get {R : RowsD δ} {L : List Int} {a k : Int} {w : RwD δ} (e : rget R k = some w) (hk : k ∉ L) : rget (growR R L a) k = some w := by
  rw [rget_grow, e, Option.map_some, if_neg hk]
theorem Ok1.move {R : RowsD δ} {f : Int} (h : Ok1 R f) {c : Int} {p : Option Int} {w : RwD δ} (e : rget R c = some w) {L : List Int} (hL : Line R p L) (hc : c ∉ L) : Ok1 (moveR R c p w) f := by
  unfold moveR
  have h2 : shape R = shape (growR (growR R (lineR R w.1) (-w.2.2)) (lineR R p) w.2.2) := by rw [shape_grow, shape_grow]
  have h1 := h.shp h2
  have e1 : ∃ z, rget (growR (growR R (lineR R w.1) (-w.2.2)) (lineR R p) w.2.2) c = some z := by
    refine key_rget ?_
    rw [← shape_keys h2]
    exact rget_key e
  obtain ⟨z, e1⟩ := e1
  exact ⟨h1.wf.put e1 (shape_line h2 hL) hc, by rw [keys_rput e1]; exact h1.lo⟩
theorem moveB_ok {s s' : Bs δ} (h : OkB s) {c n : Int} {p : Option Int} (e : moveB s c p = .ok (n, s')) : OkB s' ∧ ∃ w, rget s.R c = some w ∧ n = w.2.2 ∧ s' = keep s (moveR s.R c p w) ∧ ∃ L, Line s.R p L ∧ c ∉ L := by
  unfold moveB at e
  split at e
  · cases e
  · rename_i w ew
    split at e
    · cases e
    · rename_i hp
      split at e
      · cases e
      · cases e
        obtain ⟨h1, h2⟩ := moveX_free hp h.now.wf
        exact ⟨h.kept (h.now.move ew h1 h2), w, ew, rfl, rfl, _, h1, h2⟩
/-! cutting -/
def cutR (R : RowsD δ) (c : Int) (w : RwD δ) : RowsD δ := (growR R (lineR R w.1) (-w.2.2)).filter fun p => decide (p.1 ∉ underL R c)
def cutB (s : Bs δ) (c : Int) : Except String (List Int × Bs δ) := match rget s.R c with
  | none => .error "NoCord"
  | some w => .ok (underL s.R c, keep s (cutR s.R c w))
theorem rget_filter {R : RowsD δ} {P : Int → Bool} {k : Int} : rget (R.filter fun p => P p.1) k = if P k = true then rget R k else none := by
  induction R with
  | nil => rw [List.filter_nil, rget_nil]; split <;> rfl
  | cons p r ih =>
    rw [List.filter_cons]
    by_cases q : p.1 = k
    · subst q
      by_cases h : P p.1 = true
      · rw [if_pos h, if_pos h, rget_pos rfl, rget_pos rfl]
      · rw [if_neg h, ih, if_neg h, if_neg h]
    · rw [rget_neg q]
      by_cases h : P p.1 = true
      · rw [if_pos h, rget_neg q, ih]
      · rw [if_neg h, ih]
theorem keys_filter {R : RowsD δ} {P : Int → Bool} : keysR (R.filter fun p => P p.1) = (keysR R).filter P := by
  unfold keysR
  induction R with
  | nil => rfl
  | cons p r ih =>
    rw [List.filter_cons, List.map_cons, List.filter_cons]
    split
    · rw [List.map_cons, ih]
    · rw [ih]
theorem Wf.filter {R : RowsD δ} (h : Wf R) {P : Int → Bool} (hP : ∀ k ∈ keysR R, P k = true → ∀ L, Line R (some k) L → ∀ x ∈ L, P x = true) : Wf (R.filter fun p => P p.1) := by
  refine ⟨by rw [keys_filter]; exact h.asc.sublist List.filter_sublist, fun k hk => ?_⟩
  rw [keys_filter, List.mem_filter] at hk
  obtain ⟨L, hL⟩ := h.line k hk.1
  have key : ∀ {o : Option Int} {L : List Int}, Line R o L → (∀ x ∈ L, P x = true) → Line (R.filter fun p => P p.1) o L := by
    intro o L h1
    induction h1 with
    | nil => intro _; exact .nil
    | @cons x y L2 ex hl ih =>
      intro ha
      refine .cons (w := y) ?_ (ih fun z hz => ha z (List.mem_cons_of_mem _ hz))
      rw [rget_filter, if_pos (ha x List.mem_cons_self)]
      exact ex
  exact ⟨L, key hL (hP k hk.1 hk.2 L hL)⟩
theorem Ok1.cut {R : RowsD δ} {f : Int} (h : Ok1 R f) {c : Int} (w : RwD δ) : Ok1 (cutR R c w) f := by
  unfold cutR
  have h2 : shape R = shape (growR R (lineR R w.1) (-w.2.2)) := by rw [shape_grow]
  have h1 := h.shp h2
  have hw := h1.wf.filter (P := fun k => decide (k ∉ underL R c)) fun k hk hP L hL x hx => ?_
  · refine ⟨hw, fun k hk => ?_⟩
    have hk' : k ∈ (keysR (growR R (lineR R w.1) (-w.2.2))).filter fun k => decide (k ∉ underL R c) := by
      rw [← keys_filter]
      exact hk
    rw [List.mem_filter] at hk'
    exact h1.lo k hk'.1
  · have hk1 := of_decide_eq_true hP
    refine decide_eq_true fun hu => hk1 ?_
    rw [mem_underL h.wf] at hu ⊢
    obtain ⟨L', h3, h4⟩ := hu
    have hL' := shape_line h2.symm hL
    exact ⟨L, hL', hL'.trans hx h3 h4⟩
theorem cutB_ok {s s' : Bs δ} (h : OkB s) {c : Int} {g : List Int} (e : cutB s c = .ok (g, s')) : OkB s' ∧ g = underL s.R c ∧ ∃ w, rget s.R c = some w ∧ s' = keep s (cutR s.R c w) := by
  unfold cutB at e
  split at e
  · cases e
  · rename_i w ew
    cases e
    exact ⟨h.kept (h.now.cut w), rfl, w, ew, rfl⟩
/-! undoing -/
def undoB (s : Bs δ) : Except String (Int × Bs δ) := match s.past.getLast? with
  | none => .error "Nothing"
  | some p => .ok ((s.past.dropLast.length : Int), ⟨p.2, p.1, s.past.dropLast⟩)
theorem undoB_ok {s s' : Bs δ} (h : OkB s) {n : Int} (e : undoB s = .ok (n, s')) : OkB s' ∧ n = s'.past.length ∧ s.past = s'.past ++ [(s'.fol, s'.R)] := by
  unfold undoB at e
  split at e
  · cases e
  · rename_i p hp
    cases e
    have hm := List.mem_of_getLast? hp
    have hd : ∀ q ∈ s.past.dropLast, q ∈ s.past := fun q hq => List.dropLast_subset _ hq
    refine ⟨⟨h.past p hm, fun q hq => h.past q (hd q hq), h.fp p hm, fun q hq => h.fp q (hd q hq)⟩, rfl, ?_⟩
    have hne : s.past ≠ [] := by
      intro z
      rw [z] at hp
      cases hp
    have e1 : s.past.getLast hne = p := by
      rw [List.getLast?_eq_some_getLast hne] at hp
      exact Option.some.inj hp
    show s.past = s.past.dropLast ++ [(p.1, p.2)]
    rw [← e1]
    exact (List.dropLast_concat_getLast hne).symm
/-! the sum under a dye -/
def dyeN [DecidableEq δ] (R : RowsD δ) (d : δ) (y : Int) : Int := if hangR R (some y) = [] ∧ (rget R y).map (·.2.1) = some d then numR R y else 0
def dyedR [DecidableEq δ] (R : RowsD δ) (c : Int) (d : δ) : Int := ((underL R c).map (dyeN R d)).sum
theorem perm_sum {l m : List Int} (h : l.Perm m) : l.sum = m.sum := by
  induction h with
  | nil => rfl
  | cons x _ ih => rw [List.sum_cons, List.sum_cons, ih]
  | swap x y l => rw [List.sum_cons, List.sum_cons, List.sum_cons, List.sum_cons]; omega
  | trans _ _ h1 h2 => rw [h1, h2]
theorem under_perm {R : RowsD δ} (h : Wf R) {c : Int} {L : List Int} (nd : L.Nodup) (hm : ∀ y, y ∈ L ↔ Under R c y) : L.Perm (underL R c) :=
  (List.perm_ext_iff_of_nodup nd (asc_nodup (underL_asc h.asc))).mpr fun y => (hm y).trans (mem_underL h).symm
end
end Cor

/-! ## PuL -/
/-! ### loops by an invariant; comprehensions of what does not change -/
namespace Cor
open PySem PySem.Spec PyProof.Rows L2
section
variable {K : PySem.W.Frag} {σ : L2.St} {H : Hp} {D : Ends} {g : TG} {tb : TS} {tt : TT} {te : TE} {ws : List Nat} {L : Addr} {Q : VK}
/-- range(n): an invariant by turns -/
theorem forR_run (n : Nat) (I : Nat → L2.St → Hp → Prop)
    (hs : ∀ i σ H (N : L2.St → Hp → Prop), i < n → I i σ H → (∀ σ' H', I (i + 1) σ' H' → N σ' H') → g (.int i) σ H fun σ2 H2 => tb { D with nx := N, ct := N, bk := D.nx } σ2 H2)
    (hd : ∀ σ H, I n σ H → D.nx σ H) (h0 : I 0 σ H) : forRng g tb D n 0 σ H := by
  have key : ∀ m i σ H, i + m = n → I i σ H → forRng g tb D m (i : Int) σ H := by
    intro m
    induction m with
    | zero =>
      intro i σ H e h
      have e : i = n := e
      subst e
      exact hd _ _ h
    | succ m ih =>
      intro i σ H e h
      exact hs i σ H _ (by omega) h fun σ3 H3 r => by have := ih (i + 1) σ3 H3 (by omega) r; rw [Int.natCast_add] at this; exact this
  exact key n 0 σ H (by omega) h0
/-- a list: an invariant by what is done and what is left -/
theorem forL_run {a : Addr} {xs : List V} (I : List V → List V → L2.St → Hp → Prop) (hl : ∀ l r σ H, I l r σ H → SqL K H a xs)
    (hs : ∀ l x r σ H (N : L2.St → Hp → Prop), I l (x :: r) σ H → (∀ σ' H', I (l ++ [x]) r σ' H' → N σ' H') → g x σ H fun σ2 H2 => tb { D with nx := N, ct := N, bk := D.nx } σ2 H2)
    (hd : ∀ σ H, I xs [] σ H → D.nx σ H) (h0 : I [] xs σ H) : forRun K a xs g tb D xs σ H := by
  have key : ∀ r l σ H, l ++ r = xs → I l r σ H → forRun K a xs g tb D r σ H := by
    intro r
    induction r with
    | nil =>
      intro l σ H e h
      rw [List.append_nil] at e
      subst e
      exact ⟨hl _ _ _ _ h, hd _ _ h⟩
    | cons x r ih =>
      intro l σ H e h
      exact ⟨hl _ _ _ _ h, hs l x r σ H _ h fun σ' H' q => ih (l ++ [x]) σ' H' (by rw [← e, List.append_assoc] <;> rfl) q⟩
  exact key xs [] σ H rfl h0
/-- while: an invariant by a measure -/
theorem wh_run {c : TT} (I : Nat → L2.St → Hp → Prop)
    (hs : ∀ m σ H (N : L2.St → Hp → Prop) (P : Bool → Hp → Prop), I m σ H → (∀ m' σ' H', m' < m → I m' σ' H' → N σ' H') → (∀ H1, tb { D with nx := N, ct := N, bk := D.nx } σ H1 → P true H1) → (∀ H1, D.nx σ H1 → P false H1) → c σ H P)
    (m : Nat) (h0 : I m σ H) : tWhile c tb D σ H := by
  refine ⟨I, ⟨m, h0⟩, fun m σ H h => ?_⟩
  exact hs m σ H (fun σ' H' => ∃ m', m' < m ∧ I m' σ' H') _ h (fun m' σ' H' hm q => ⟨m', hm, q⟩) (fun H1 q => iteT ⟨_, fun σ' H' q => q, q⟩) fun H1 q => iteF q
/-- range(n): each turn makes Some item or none -/
theorem lcr_map {H0 : Hp} (f : Nat → Option V) (hL : H0 L = none) : ∀ (n k : Nat) (acc : List V) (H1 : Hp),
    (∀ i, k ≤ i → i < k + n → ∀ H2 (R : Option V → Hp → Prop), Same H0 H2 → (∀ H3, Same H2 H3 → R (f i) H3) → g (.int i) (wipe σ ws) H2 fun σ2 H3 => wipe σ2 ws = wipe σ ws ∧ tt σ2 H3 fun b H4 => if b = true then te σ2 H4 fun y H5 => R (some y) H5 else R none H4) →
    Same H0 H1 → H1 L = some (.lst acc) → acc.length + n ≤ 5000 → (∀ H', Same H0 H' → H' L = some (.lst (acc ++ (List.range' k n).filterMap f)) → Q (.ref L) H') → lcRng g tt te ws σ L Q n (k : Int) H1 := by
  intro n
  induction n with
  | zero =>
    intro k acc H1 _ s1 h1 _ hq
    exact hq H1 s1 (by rw [h1]; simp)
  | succ n ih =>
    intro k acc H1 step s1 h1 hn hq
    have hx : ((k + 1 : Nat) : Int) = (k : Int) + 1 := by omega
    have ek : List.range' k (n + 1) = k :: List.range' (k + 1) n := by rw [List.range'_succ]
    have h := step k (Nat.le_refl _) (by omega) H1 (fun o H5 => match o with
      | some y => ∃ acc, H5 L = some (.lst acc) ∧ acc.length < sizeLine ∧ lcRng g tt te ws σ L Q n ((k : Int) + 1) (upd H5 L (.lst (acc ++ [y])))
      | none => lcRng g tt te ws σ L Q n ((k : Int) + 1) H5) s1 (fun H3 s3 => ?_)
    · exact h
    · cases e : f k with
      | none =>
        show lcRng g tt te ws σ L Q n ((k : Int) + 1) H3
        rw [← hx]
        refine ih (k + 1) acc H3 (fun i hi hi2 => step i (by omega) (by omega)) (s1.trans s3) (s3 _ _ h1) (by omega) fun H' s' h' => hq H' s' ?_
        rw [ek, List.filterMap_cons_none e]
        exact h'
      | some y =>
        refine ⟨acc, s3 _ _ h1, sz_lt (by omega), ?_⟩
        rw [← hx]
        refine ih (k + 1) (acc ++ [y]) _ (fun i hi hi2 => step i (by omega) (by omega)) (same_mut (s1.trans s3) hL) upd_same (by rw [List.length_append, List.length_singleton]; omega) fun H' s' h' => hq H' s' ?_
        rw [ek, List.filterMap_cons_some e, h', List.append_assoc] <;> rfl
/-- the same over a list -/
theorem lcl_map {H0 : Hp} {a : Addr} {all : List V} (f : V → Option V) (hL : H0 L = none) (ha : SqL K H0 a all) : ∀ (r acc : List V) (H1 : Hp),
    (∀ x ∈ r, ∀ H2 (R : Option V → Hp → Prop), Same H0 H2 → (∀ H3, Same H2 H3 → R (f x) H3) → g x (wipe σ ws) H2 fun σ2 H3 => wipe σ2 ws = wipe σ ws ∧ tt σ2 H3 fun b H4 => if b = true then te σ2 H4 fun y H5 => R (some y) H5 else R none H4) →
    Same H0 H1 → H1 L = some (.lst acc) → acc.length + r.length ≤ 5000 → (∀ H', Same H0 H' → H' L = some (.lst (acc ++ r.filterMap f)) → Q (.ref L) H') → lcRun K a all g tt te ws σ L Q r H1 := by
  intro r
  induction r with
  | nil =>
    intro acc H1 _ s1 h1 _ hq
    exact ⟨s1.seq ha, hq H1 s1 (by rw [h1]; simp)⟩
  | cons x r ih =>
    intro acc H1 step s1 h1 hn hq
    rw [List.length_cons] at hn
    refine ⟨s1.seq ha, ?_⟩
    have h := step x List.mem_cons_self H1 (fun o H5 => match o with
      | some y => ∃ acc, H5 L = some (.lst acc) ∧ acc.length < sizeLine ∧ lcRun K a all g tt te ws σ L Q r (upd H5 L (.lst (acc ++ [y])))
      | none => lcRun K a all g tt te ws σ L Q r H5) s1 (fun H3 s3 => ?_)
    · exact h
    · cases e : f x with
      | none =>
        show lcRun K a all g tt te ws σ L Q r H3
        refine ih acc H3 (fun i hi => step i (List.mem_cons_of_mem _ hi)) (s1.trans s3) (s3 _ _ h1) (by omega) fun H' s' h' => hq H' s' ?_
        rw [List.filterMap_cons_none e]
        exact h'
      | some y =>
        refine ⟨acc, s3 _ _ h1, sz_lt (by omega), ?_⟩
        refine ih (acc ++ [y]) _ (fun i hi => step i (List.mem_cons_of_mem _ hi)) (same_mut (s1.trans s3) hL) upd_same (by rw [List.length_append, List.length_singleton]; omega) fun H' s' h' => hq H' s' ?_
        rw [List.filterMap_cons_some e, h', List.append_assoc] <;> rfl
end
theorem rgOk0 {n : Nat} (h : n ≤ 100000) : RgOk 0 (n : Int) := ⟨by decide, by decide, by omega, by omega, by rw [Int.sub_zero, Int.toNat_natCast]; exact Nat.le_trans h (by decide)⟩
theorem rgV0 (n : Nat) : rgV 0 (n : Int) = ((List.range' 0 n).map fun i : Nat => (i : Int)).map V.int := by
  unfold rgV
  rw [Int.sub_zero, Int.toNat_natCast, List.range_eq_range', List.map_map]
  refine List.map_congr_left fun i _ => ?_
  show V.int (0 + (i : Int)) = V.int (i : Int)
  rw [Int.zero_add]
/-! ### the laws' compares -/
section
variable {K : PySem.W.Frag} {vs : List V} {H : Hp} {Q : VK} {E : XK}
theorem g_pop {l : Addr} {xs : List V} {y : V} (h1 : H l = some (.lst (xs ++ [y]))) (h : Q y (upd H l (.lst xs))) : rPop (.ref l) [] H Q := by
  refine ⟨l, xs ++ [y], y, rfl, rfl, h1, ?_, ?_⟩
  · rw [List.length_append, List.length_singleton, Nat.add_sub_cancel, List.getElem?_append_right (Nat.le_refl _), Nat.sub_self] <;> rfl
  · rw [List.dropLast_concat]
    exact h
def sp_law_same (K : PySem.W.Frag) : Sp := fun vs H Q _ => ∃ p q, ∃ L : List Int, vs = [.ref p, .ref q] ∧ H p = some (.lst (L.map V.int)) ∧ SqL K H q (L.map V.int) ∧ L.length ≤ 100000 ∧ Q (.bl true) H
/-- _law_same: slots found, due, k -/
def p0_law_same (K : PySem.W.Frag) (E : XK) : TS :=
  tIfS (tOr (tNot (tB (tCall (sp_law_whole K) [] E0 (tCons (tOp (rIxL K) (tVar 0) (tVar 2)) tNil)))) (tTest (tOp rNe (tOp (rIxL K) (tVar 0) (tVar 2)) (tOp (rIxL K) (tVar 1) (tVar 2))))) (tRet (tC (.bl false))) tNext
def p1_law_same (K : PySem.W.Frag) (E : XK) : TS :=
  tSeq (tFor (iRng1 (tCons (tCB (rLenL K) (tCons (tVar 1) tNil)) tNil)) (gName 2) (p0_law_same K E)) (tRet (tC (.bl true)))
def t_law_same (K : PySem.W.Frag) (E : XK) : TS :=
  tSeq (tIfS (tOr (tNot (tB (tCB (rIsi K) (tCons (tVar 0) (tCons (tC (.ty "list")) tNil))))) (tTest (tOp rNe (tCB (rLenL K) (tCons (tVar 0) tNil)) (tCB (rLenL K) (tCons (tVar 1) tNil))))) (tRet (tC (.bl false))) tNext) (p1_law_same K E)
abbrev n_law_same : List Str := ["found", "due", "k"]

theorem len_law_same (h : sp_law_same K vs H Q E) : vs.length = (["found", "due"] : List Str).length := by
  obtain ⟨_, _, _, rfl, _⟩ := h
  rfl
theorem pure_law_same (K : PySem.W.Frag) (vs : List V) (H : Hp) (Q : VK) (E : XK) (h : sp_law_same K vs H Q E) : t_law_same K E { nx := fun _ H' => Q .non H', rt := Q } (start n_law_same vs) H := by
  obtain ⟨p, r, L, rfl, hp, hr, hl, q⟩ := h
  have hp' : SqL K H p (L.map V.int) := SqL.of hp
  unfold t_law_same
  walk_at "go"
  refine g_isi (b := true) (.base (.lst hp)) (show L2.kitB "list" "list" = some true by decide +kernel) ?_
  walk_at "go"
  refine g_lenL hp' ?_
  walk_at "go"
  refine g_lenL hr ?_
  walk_at "go"
  refine dec_NT rfl ?_
  walk_at "go"
  unfold p1_law_same
  walk_at "go"
  refine g_forR1 ?_
  walk_at "go"
  refine g_lenL hr ?_
  walk_at "go"
  rw [List.length_map]
  refine rng1_of (by omega) (by omega) ?_
  rw [Int.toNat_natCast]
  have run : ∀ (m i : Nat) (w : Option V), i + m = L.length → forRng (gName 2) (p0_law_same K E) { nx := tRet (tC (.bl true)) { nx := fun _ H' => Q .non H', rt := Q }, rt := Q } m (i : Int) [some (.ref p), some (.ref r), w] H := by
    intro m
    induction m with
    | zero =>
      intro i w e
      walk_at "go"
      exact q
    | succ m ih =>
      intro i w e
      have hi : atI (L.map V.int) (i : Int) = some (.int (cell L i)) := atI_map (by omega) (by omega)
      walk_at "go"
      unfold p0_law_same
      walk_at "go"
      refine g_ixL hp' hi ?_
      walk_at "go"
      refine ⟨_, rfl, ?_⟩
      walk_at "go"
      refine g_ixL hp' hi ?_
      walk_at "go"
      refine g_ixL hr hi ?_
      walk_at "go"
      refine dec_NT rfl ?_
      walk_at "go"
      have := ih (i + 1) (some (.int i)) (by omega)
      rw [Int.natCast_add] at this
      exact this
  exact run L.length 0 _ (by omega)
def sp_law_over_is (K : PySem.W.Frag) : Sp := fun vs H Q _ => ∃ o, vs = [oV o, oV o] ∧ Q (.bl true) H
/-- _law_over_is: slots found, due -/
def p0_law_over_is (K : PySem.W.Frag) (E : XK) : TS :=
  tRet (tAndV (tCall (sp_law_whole K) [] E0 (tCons (tVar 0) tNil)) (tOp rEq (tVar 0) (tVar 1)))
def t_law_over_is (K : PySem.W.Frag) (E : XK) : TS :=
  tSeq (tIfS (tTest (tOp rIsN (tVar 1) (tC .non))) (tRet (tOp rIsN (tVar 0) (tC .non))) tNext) (p0_law_over_is K E)
abbrev n_law_over_is : List Str := ["found", "due"]

theorem len_law_over_is (h : sp_law_over_is K vs H Q E) : vs.length = (["found", "due"] : List Str).length := by
  obtain ⟨_, rfl, _⟩ := h
  rfl
theorem pure_law_over_is (K : PySem.W.Frag) (vs : List V) (H : Hp) (Q : VK) (E : XK) (h : sp_law_over_is K vs H Q E) : t_law_over_is K E { nx := fun _ H' => Q .non H', rt := Q } (start n_law_over_is vs) H := by
  obtain ⟨o, rfl, q⟩ := h
  unfold t_law_over_is
  cases o with
  | none =>
    walk_at "go"
    exact q
  | some i =>
    walk_at "go"
    try unfold p0_law_over_is
    walk_at "go"
    refine ⟨i, rfl, ?_⟩
    walk_at "go"
    rw [decide_eq_true rfl]
    exact q
def abc : Str := "abcdefghijklmnopqrstuvwxyz"
theorem abc_len : abc.length = 26 := by decide +kernel
def dyeS (c : Int) : Str := ⟨#[abc.cps.toList.getD (c % 26).toNat 0]⟩
theorem atI_abc (c : Int) : atI abc.cps.toList (c % 26) = some (abc.cps.toList.getD (c % 26).toNat 0) := by
  have hl : abc.cps.toList.length = 26 := by rw [Array.length_toList]; exact abc_len
  obtain ⟨j, hj⟩ : ∃ j : Nat, c % 26 = (j : Int) := ⟨(c % 26).toNat, by omega⟩
  have hj2 : j < abc.cps.toList.length := by omega
  rw [hj]
  refine atI_nat ?_
  rw [Int.toNat_natCast, List.getD_eq_getElem?_getD, List.getElem?_eq_getElem hj2] <;> rfl
def sp_law_dye (K : PySem.W.Frag) : Sp := fun vs H Q _ => ∃ c, vs = [.int c] ∧ Q (.str (dyeS c)) H
/-- _law_dye: slots cell -/
def t_law_dye (K : PySem.W.Frag) (E : XK) : TS :=
  tRet (tOp rIxS (tC (.str "abcdefghijklmnopqrstuvwxyz")) (tOp rModI (tVar 0) (tC (.int 26))))
abbrev n_law_dye : List Str := ["cell"]

theorem len_law_dye (h : sp_law_dye K vs H Q E) : vs.length = (["cell"] : List Str).length := by
  obtain ⟨_, rfl, _⟩ := h
  rfl
theorem pure_law_dye (K : PySem.W.Frag) (vs : List V) (H : Hp) (Q : VK) (E : XK) (h : sp_law_dye K vs H Q E) : t_law_dye K E { nx := fun _ H' => Q .non H', rt := Q } (start n_law_dye vs) H := by
  obtain ⟨c, rfl, q⟩ := h
  unfold t_law_dye
  walk_at "go"
  exact g_ixS (show abc.length ≤ 100000 by rw [abc_len]; decide) (atI_abc c) q
end
end Cor

/-! ## PuRc -/
/-! ### records in the heap; rows compared -/
namespace Cor
open PySem PySem.Spec PyProof.Rows L2
abbrev Rw := Int × Option Int × List (Option Int)
abbrev Rc := List Rw
def rwV (r : Rw) (k : Addr) : List V := [.int r.1, oV r.2.1, .ref k]
inductive RcAll (H : Hp) (P : Addr → Prop) : List V → Rc → Prop
  | nil : RcAll H P [] []
  | cons {t k : Addr} {r : Rw} {vs : List V} {rs : Rc} : H t = some (.tup (rwV r k)) → H k = some (.lst (r.2.2.map oV)) → P k → RcAll H P vs rs → RcAll H P (.ref t :: vs) (r :: rs)
/-- a record: a list at p of rows; its lists all have P -/
def RecAt (H : Hp) (P : Addr → Prop) (p : Addr) (R : Rc) : Prop := ∃ vs, H p = some (.lst vs) ∧ P p ∧ RcAll H P vs R
def Fig3 (R : Rc) : Prop := ∀ r ∈ R, r.2.2.length = 3
section
variable {K : PySem.W.Frag} {H H' : Hp} {P P' : Addr → Prop}
theorem RcAll.move (kt : ∀ a xs, H a = some (.tup xs) → H' a = some (.tup xs)) (kl : ∀ a xs, H a = some (.lst xs) → P a → H' a = some (.lst xs) ∧ P' a) : ∀ {vs : List V} {R : Rc}, RcAll H P vs R → RcAll H' P' vs R
  | _, _, .nil => .nil
  | _, _, .cons h1 h2 h3 h4 => .cons (kt _ _ h1) (kl _ _ h2 h3).1 (kl _ _ h2 h3).2 (RcAll.move kt kl h4)
theorem RecAt.move {p : Addr} {R : Rc} (kt : ∀ a xs, H a = some (.tup xs) → H' a = some (.tup xs)) (kl : ∀ a xs, H a = some (.lst xs) → P a → H' a = some (.lst xs) ∧ P' a) (h : RecAt H P p R) : RecAt H' P' p R := by
  obtain ⟨vs, h1, h2, h3⟩ := h
  exact ⟨vs, (kl _ _ h1 h2).1, (kl _ _ h1 h2).2, h3.move kt kl⟩
theorem RcAll.same {vs : List V} {R : Rc} (h : RcAll H P vs R) (e : Same H H') : RcAll H' P vs R := h.move (fun a xs => e _ _) fun a xs h1 h2 => ⟨e _ _ h1, h2⟩
theorem RecAt.same {p : Addr} {R : Rc} (h : RecAt H P p R) (e : Same H H') : RecAt H' P p R := h.move (fun a xs => e _ _) fun a xs h1 h2 => ⟨e _ _ h1, h2⟩
theorem RcAll.weak {vs : List V} {R : Rc} (h : RcAll H P vs R) (e : ∀ a, P a → P' a) : RcAll H P' vs R := h.move (fun a xs h => h) fun a xs h1 h2 => ⟨h1, e a h2⟩
theorem RecAt.weak {p : Addr} {R : Rc} (h : RecAt H P p R) (e : ∀ a, P a → P' a) : RecAt H P' p R := h.move (fun a xs h => h) fun a xs h1 h2 => ⟨h1, e a h2⟩
theorem RcAll.len : ∀ {vs : List V} {R : Rc}, RcAll H P vs R → vs.length = R.length
  | _, _, .nil => rfl
  | _, _, .cons _ _ _ h => by rw [List.length_cons, List.length_cons, h.len]
theorem RcAll.get : ∀ {vs : List V} {R : Rc}, RcAll H P vs R → ∀ {i : Nat} {r : Rw}, R[i]? = some r → ∃ t k, vs[i]? = some (.ref t) ∧ H t = some (.tup (rwV r k)) ∧ H k = some (.lst (r.2.2.map oV)) ∧ P k
  | _, _, .nil, i, r, h => by cases h
  | _, _, .cons h1 h2 h3 h4, 0, r, h => by cases h; exact ⟨_, _, rfl, h1, h2, h3⟩
  | _, _, .cons h1 h2 h3 h4, i + 1, r, h => h4.get (by rw [List.getElem?_cons_succ] at h; exact h)
theorem RcAll.snoc {t k : Addr} {r : Rw} (ht : H t = some (.tup (rwV r k))) (hk : H k = some (.lst (r.2.2.map oV))) (hP : P k) : ∀ {vs : List V} {R : Rc}, RcAll H P vs R → RcAll H P (vs ++ [.ref t]) (R ++ [r])
  | _, _, .nil => .cons ht hk hP .nil
  | _, _, .cons h1 h2 h3 h4 => .cons h1 h2 h3 (RcAll.snoc ht hk hP h4)
theorem RcAll.vref {vs : List V} {R : Rc} (h : RcAll H P vs R) {i : Nat} {v : V} (e : vs[i]? = some v) : ∃ r t k, R[i]? = some r ∧ v = .ref t ∧ H t = some (.tup (rwV r k)) ∧ H k = some (.lst (r.2.2.map oV)) ∧ P k := by
  have hi : i < R.length := by
    rw [← h.len]
    exact (List.getElem?_eq_some_iff.mp e).1
  obtain ⟨t, k, e1, h1, h2, h3⟩ := h.get (List.getElem?_eq_getElem hi)
  rw [e] at e1
  exact ⟨_, t, k, List.getElem?_eq_getElem hi, Option.some.inj e1, h1, h2, h3⟩
end
section
variable {K : PySem.W.Frag} {vs : List V} {H : Hp} {Q : VK} {E : XK}
theorem ne_kd {a c : Addr} {x y : HO} (h1 : H a = some x) (h2 : H c = some y) (hxy : x ≠ y) : a ≠ c := by
  rintro rfl
  rw [h1] at h2
  exact hxy (Option.some.inj h2)
/-- a record all of whose lists are new -/
def RecNew (H H' : Hp) (p : Addr) (R : Rc) : Prop := ∃ vs, H' p = some (.lst vs) ∧ H p = none ∧ RcAll H' (fun a => H a = none ∧ a ≠ p) vs R
theorem RecNew.at {H H' : Hp} {p : Addr} {R : Rc} (h : RecNew H H' p R) : RecAt H' (fun a => H a = none) p R := by
  obtain ⟨vs, h1, h2, h3⟩ := h
  exact ⟨vs, h1, h2, h3.weak fun a h => h.1⟩
theorem RcAll.upd {P : Addr → Prop} {p : Addr} {ys : List V} {o : HO} (hp : H p = some (.lst ys)) (hP : ∀ a, P a → a ≠ p) {vs : List V} {R : Rc} (h : RcAll H P vs R) : RcAll (L2.upd H p o) P vs R :=
  h.move (fun a xs ha => by rw [upd_ne (ne_kd ha hp (by intro z; cases z))]; exact ha) fun a xs h1 h2 => ⟨by rw [upd_ne (hP a h2)]; exact h1, h2⟩
theorem scal_oR (a b : Option Int) : scal (oV a) (oV b) = true := by
  cases a <;> cases b <;> rfl
theorem g_lenT {p : Addr} {ys : List V} (hs : SqT K H p ys) (h : Q (.int ys.length) H) : rLenL K [.ref p] H Q := ⟨p, ys, rfl, .inr hs, h⟩
theorem g_forZ {g : TG} {tb : TS} {D : Ends} {ta : TA} {σ : L2.St} (h : ta σ H fun vs H1 => ∃ a b xs ys, vs = [.ref a, .ref b] ∧ SqL K H1 a xs ∧ SqL K H1 b ys ∧ ∃ W : Nat → Nat → L2.St → Hp → Prop, (∃ m, W 0 m σ H1) ∧ ∀ i m σ H, W i m σ H →
    ((Itz K a b).stop i H ∧ D.nx σ H) ∨ ((Itz K a b).go i H ∧ ∃ N : L2.St → Hp → Prop, (∀ σ' H', N σ' H' → ∃ m', m' < m ∧ W (i + 1) m' σ' H') ∧ ∀ v H', (Itz K a b).yld i H v H' → g v σ H' fun σ2 H2 => tb { D with nx := N, ct := N, bk := D.nx } σ2 H2)) : tFor (iZip K ta) g tb D σ H := h
theorem g_two {g1 g2 : TG} {T : Addr} {x y : V} {σ : L2.St} {A : L2.St → Hp → Prop} (h : g1 x σ (upd H T (.tup [x, y])) fun σ1 H1 => g2 y σ1 H1 A) : gTup K 2 (gCons g1 (gCons g2 gNil)) (.ref T) σ (upd H T (.tup [x, y])) A :=
  ⟨T, [x, y], rfl, SqT.of upd_same, rfl, x, [y], rfl, by
    have e : (fun σ' H' => gCons g2 gNil [y] σ' H' A) = fun σ1 H1 => g2 y σ1 H1 A := by
      funext σ1 H1
      refine propext ⟨fun ⟨v, r, e1, h1⟩ => ?_, fun h1 => ⟨y, [], rfl, ?_⟩⟩
      · cases e1
        have e2 : (fun σ' H' => gNil [] σ' H' A) = A := by
          funext σ' H'
          exact propext ⟨fun h => h.2, fun h => ⟨rfl, h⟩⟩
        rw [e2] at h1
        exact h1
      · have e2 : (fun σ' H' => gNil [] σ' H' A) = A := by
          funext σ' H'
          exact propext ⟨fun h => h.2, fun h => ⟨rfl, h⟩⟩
        rw [e2]
        exact h1
    rw [e]
    exact h⟩
def sp_law_rows (K : PySem.W.Frag) : Sp := fun vs H Q _ => ∃ p q R P P', vs = [.ref p, .ref q] ∧ RecAt H P p R ∧ RecAt H P' q R ∧ Fig3 R ∧ ∀ H', Same H H' → Q (.bl true) H'
/-- _law_rows: slots found, due, row, own -/
def p0_law_rows (K : PySem.W.Frag) (E : XK) : TS :=
  tIfS (tOr (tTest (tOp rNe (tOp (rIxT K) (tVar 2) (tC (.int 1))) (tOp (rIxT K) (tVar 3) (tC (.int 1))))) (tNot (tB (tCall (sp_law_knots K) [] E0 (tCons (tOp (rIxT K) (tVar 2) (tC (.int 2))) (tCons (tOp (rIxT K) (tVar 3) (tC (.int 2))) tNil)))))) (tRet (tC (.bl false))) tNext
def p1_law_rows (K : PySem.W.Frag) (E : XK) : TS :=
  tSeq (tIfS (tOr (tAnd (tTest (tOp rIsN (tOp (rIxT K) (tVar 3) (tC (.int 1))) (tC .non))) (tTest (tOp rNotN (tOp (rIxT K) (tVar 2) (tC (.int 1))) (tC .non)))) (tAnd (tTest (tOp rNotN (tOp (rIxT K) (tVar 3) (tC (.int 1))) (tC .non))) (tNot (tB (tCall (sp_law_whole K) [] E0 (tCons (tOp (rIxT K) (tVar 2) (tC (.int 1))) tNil)))))) (tRet (tC (.bl false))) tNext) (p0_law_rows K E)
def p2_law_rows (K : PySem.W.Frag) (E : XK) : TS :=
  tSeq (tIfS (tOr (tNot (tB (tCB (rIsi K) (tCons (tVar 2) (tCons (tC (.ty "tuple")) tNil))))) (tOr (tTest (tOp rNe (tCB (rLenL K) (tCons (tVar 2) tNil)) (tC (.int 3)))) (tOr (tNot (tB (tCall (sp_law_whole K) [] E0 (tCons (tOp (rIxT K) (tVar 2) (tC (.int 0))) tNil)))) (tTest (tOp rNe (tOp (rIxT K) (tVar 2) (tC (.int 0))) (tOp (rIxT K) (tVar 3) (tC (.int 0)))))))) (tRet (tC (.bl false))) tNext) (p1_law_rows K E)
def p3_law_rows (K : PySem.W.Frag) (E : XK) : TS :=
  tSeq (tFor (iZip K (tCons (tVar 0) (tCons (tVar 1) tNil))) (gTup K 2 (gCons (gName 2) (gCons (gName 3) gNil))) (p2_law_rows K E)) (tRet (tC (.bl true)))
def t_law_rows (K : PySem.W.Frag) (E : XK) : TS :=
  tSeq (tIfS (tOr (tNot (tB (tCB (rIsi K) (tCons (tVar 0) (tCons (tC (.ty "list")) tNil))))) (tTest (tOp rNe (tCB (rLenL K) (tCons (tVar 0) tNil)) (tCB (rLenL K) (tCons (tVar 1) tNil))))) (tRet (tC (.bl false))) tNext) (p3_law_rows K E)
abbrev n_law_rows : List Str := ["found", "due", "row", "own"]

theorem len_law_rows (h : sp_law_rows K vs H Q E) : vs.length = (["found", "due"] : List Str).length := by
  obtain ⟨_, _, _, _, _, rfl, _⟩ := h
  rfl
theorem pure_law_rows (K : PySem.W.Frag) (vs : List V) (H : Hp) (Q : VK) (E : XK) (h : sp_law_rows K vs H Q E) : t_law_rows K E { nx := fun _ H' => Q .non H', rt := Q } (start n_law_rows vs) H := by
  obtain ⟨p, r, R, P, P', rfl, ⟨xs, hp, _, dp⟩, ⟨ys, hr, _, dr⟩, f3, q⟩ := h
  unfold t_law_rows
  walk_at "go"
  refine g_isi (b := true) (tx_lst hp) (show L2.kitB "list" "list" = some true by decide +kernel) ?_
  walk_at "go"
  refine g_lenL (SqL.of hp) ?_
  walk_at "go"
  refine g_lenL (SqL.of hr) ?_
  walk_at "go"
  refine dec_NT (by rw [dp.len, dr.len]) ?_
  walk_at "nx"
  unfold p3_law_rows
  walk_at "go"
  refine g_forZ ?_
  walk_at "go"
  refine ⟨p, r, xs, ys, rfl, SqL.of hp, SqL.of hr, RZ.for_zipL (xs := xs) (ys := ys) (by rw [dp.len, dr.len]) (fun i σ H' => ∃ w2 w3, σ = [some (.ref p), some (.ref r), w2, w3] ∧ Same H H') ⟨_, _, rfl, Same.refl _⟩ ?_ ?_ ?_⟩
  · rintro i σ H1 ⟨w2, w3, rfl, s1⟩
    exact ⟨SqL.of (s1 _ _ hp), SqL.of (s1 _ _ hr)⟩
  · rintro i x y T σ H1 ex ey ⟨w2, w3, rfl, s1⟩ hT
    obtain ⟨w, t, k, eR, rfl, ht, hk, _⟩ := dp.vref ex
    obtain ⟨w', t', k', eR', rfl, ht', hk', _⟩ := dr.vref ey
    rw [eR] at eR'
    cases eR'
    have h3 : w.2.2.length = 3 := f3 w (List.mem_of_getElem? eR)
    refine g_two ?_
    have s2 : Same H1 (upd H1 T (.tup [.ref t, .ref t'])) := same_new hT
    have s12 := s1.trans s2
    obtain ⟨H2, e2⟩ : ∃ H2, H2 = upd H1 T (.tup [.ref t, .ref t']) := ⟨_, rfl⟩
    rw [← e2] at s12 ⊢
    clear e2 s2
    have ht := s12 _ _ ht
    have ht' := s12 _ _ ht'
    walk_at "go"
    unfold p2_law_rows
    walk_at "go"
    refine g_isi (b := true) (.base (.tup ht)) (show L2.kitB "tuple" "tuple" = some true by decide +kernel) ?_
    walk_at "go"
    refine g_lenT (SqT.of ht) ?_
    walk_at "go"
    refine dec_NT rfl ?_
    walk_at "go"
    refine g_ixT (SqT.of ht) (show atI (rwV w k) 0 = some (.int w.1) from rfl) ?_
    walk_at "go"
    refine ⟨_, rfl, ?_⟩
    walk_at "go"
    refine g_ixT (SqT.of ht) (show atI (rwV w k) 0 = some (.int w.1) from rfl) ?_
    walk_at "go"
    refine g_ixT (SqT.of ht') (show atI (rwV w k') 0 = some (.int w.1) from rfl) ?_
    walk_at "go"
    refine dec_NT rfl ?_
    walk_at "nx"
    have last : ∀ D : Ends, D.nx [some (.ref p), some (.ref r), some (.ref t), some (.ref t')] H2 → p0_law_rows K E D [some (.ref p), some (.ref r), some (.ref t), some (.ref t')] H2 := by
      intro D hD
      unfold p0_law_rows
      walk_at "go"
      refine g_ixT (SqT.of ht) (show atI (rwV w k) 1 = some (oV w.2.1) from rfl) ?_
      walk_at "go"
      refine g_ixT (SqT.of ht') (show atI (rwV w k') 1 = some (oV w.2.1) from rfl) ?_
      walk_at "go"
      refine ⟨scal_oR _ _, ?_⟩
      rw [decide_eq_true rfl]
      walk_at "go"
      refine g_ixT (SqT.of ht) (show atI (rwV w k) 2 = some (.ref k) from rfl) ?_
      walk_at "go"
      refine g_ixT (SqT.of ht') (show atI (rwV w k') 2 = some (.ref k') from rfl) ?_
      walk_at "go"
      refine ⟨k, k', w.2.2, rfl, s12 _ _ hk, SqL.of (s12 _ _ hk'), h3, ?_⟩
      walk_at "go"
      exact hD
    unfold p1_law_rows
    walk_at "go"
    refine g_ixT (SqT.of ht') (show atI (rwV w k') 1 = some (oV w.2.1) from rfl) ?_
    cases eo : w.2.1 with
    | none =>
      walk_at "go"
      refine g_ixT (SqT.of ht) (show atI (rwV w k) 1 = some (oV w.2.1) from rfl) ?_
      rw [eo]
      walk_at "go"
      refine g_ixT (SqT.of ht') (show atI (rwV w k') 1 = some (oV w.2.1) from rfl) ?_
      rw [eo]
      walk_at "go"
      refine last _ ?_
      exact ⟨_, _, rfl, s12⟩
    | some o =>
      walk_at "go"
      refine g_ixT (SqT.of ht') (show atI (rwV w k') 1 = some (oV w.2.1) from rfl) ?_
      rw [eo]
      walk_at "go"
      refine g_ixT (SqT.of ht) (show atI (rwV w k) 1 = some (oV w.2.1) from rfl) ?_
      rw [eo]
      walk_at "go"
      refine ⟨_, rfl, ?_⟩
      walk_at "go"
      refine last _ ?_
      exact ⟨_, _, rfl, s12⟩
  · rintro σ H1 ⟨w2, w3, rfl, s1⟩
    walk_at "go"
    exact q _ s1
end
/-- a row whose list is new (behind H0), and may have been changed -/
def MutR (H0 H : Hp) (p : Addr) (v : V) : Prop := ∃ t k x y a b c, v = .ref t ∧ H t = some (.tup [x, y, .ref k]) ∧ H k = some (.lst [a, b, c]) ∧ H0 k = none ∧ k ≠ p
theorem MutR.same {H0 H H' : Hp} {p : Addr} {v : V} (h : MutR H0 H p v) (e : Same H H') : MutR H0 H' p v := by
  obtain ⟨t, k, x, y, a, b, c, rfl, h1, h2, h3, h4⟩ := h
  exact ⟨t, k, x, y, a, b, c, rfl, e _ _ h1, e _ _ h2, h3, h4⟩
theorem MutR.upd {H0 H : Hp} {p k : Addr} {v a b c a' b' c' : V} (hk : H k = some (.lst [a, b, c])) (h : MutR H0 H p v) : MutR H0 (L2.upd H k (.lst [a', b', c'])) p v := by
  obtain ⟨t, k2, x, y, a2, b2, c2, rfl, h1, h2, h3, h4⟩ := h
  have nt : t ≠ k := ne_kd h1 hk (by intro z; cases z)
  by_cases e : k2 = k
  · subst e
    exact ⟨t, k2, x, y, a', b', c', rfl, by rw [upd_ne nt]; exact h1, upd_same, h3, h4⟩
  · exact ⟨t, k2, x, y, a2, b2, c2, rfl, by rw [upd_ne nt]; exact h1, by rw [upd_ne e]; exact h2, h3, h4⟩
theorem rec_mut {H0 H : Hp} {p : Addr} {R : Rc} {vs : List V} (f3 : Fig3 R) (h : RcAll H (fun a => H0 a = none ∧ a ≠ p) vs R) : ∀ v ∈ vs, MutR H0 H p v := by
  intro v hv
  obtain ⟨i, e⟩ := List.mem_iff_getElem?.mp hv
  obtain ⟨r, t, k, eR, rfl, h1, h2, h3, h4⟩ := h.vref e
  obtain ⟨a, b, c, ek⟩ := three (f3 r (List.mem_of_getElem? eR))
  rw [ek] at h2
  exact ⟨t, k, _, _, _, _, _, rfl, h1, h2, h3, h4⟩
end Cor

/-! ## PuLk -/
/-! ### looked; a record copied -/
namespace Cor
open PySem PySem.Spec PyProof.Rows L2
/-- the place of a name -/
def posI : List Int → Int → Option Int
  | [], _ => none
  | n :: r, k => if n = k then some 0 else (posI r k).map (· + 1)
theorem posI_none {k : Int} : ∀ {ns : List Int}, posI ns k = none ↔ k ∉ ns
  | [] => by simp [posI]
  | n :: r => by
    unfold posI
    by_cases e : n = k
    · subst e; simp
    · rw [if_neg e, Option.map_eq_none_iff, posI_none (ns := r), List.mem_cons, not_or]
      exact ⟨fun h => ⟨fun z => e z.symm, h⟩, fun h => h.2⟩
theorem posI_some {k i : Int} : ∀ {ns : List Int}, posI ns k = some i → 0 ≤ i ∧ ns[i.toNat]? = some k
  | [], h => by cases h
  | n :: r, h => by
    unfold posI at h
    by_cases e : n = k
    · rw [if_pos e] at h
      cases h
      exact ⟨Int.le_refl _, by rw [e] <;> rfl⟩
    · rw [if_neg e] at h
      cases hp : posI r k with
      | none => rw [hp] at h; cases h
      | some j =>
        rw [hp] at h
        have h : j + 1 = i := Option.some.inj h
        subst h
        obtain ⟨h1, h2⟩ := posI_some hp
        refine ⟨by omega, ?_⟩
        rw [show (j + 1).toNat = j.toNat + 1 by omega, List.getElem?_cons_succ]
        exact h2
theorem posI_lt {k i : Int} {ns : List Int} (h : posI ns k = some i) : i < ns.length := by
  obtain ⟨h0, h1⟩ := posI_some h
  have := (List.getElem?_eq_some_iff.mp h1).1
  omega
theorem posI_snoc (x k : Int) : ∀ ns : List Int, posI (ns ++ [x]) k = match posI ns k with | some i => some i | none => if x = k then some (ns.length : Int) else none
  | [] => by
    show (if x = k then some 0 else none) = _
    rfl
  | n :: r => by
    rw [List.cons_append]
    unfold posI
    by_cases e : n = k
    · rw [if_pos e, if_pos e]
    · rw [if_neg e, if_neg e, posI_snoc x k r]
      cases posI r k with
      | some i => rfl
      | none =>
        dsimp only [Option.map_none]
        by_cases q : x = k
        · rw [if_pos q, if_pos q, List.length_cons]
          show some (((r.length : Int)) + 1) = _
          congr 1
        · rw [if_neg q, if_neg q] <;> rfl
/-- for each row the place of its over's row, or the first refusal -/
def lookF : List Int → Rc → Except String (List (Option Int))
  | _, [] => .ok []
  | ns, r :: rs => if r.1 ∈ ns then .error "Taken" else match r.2.1 with
    | none => (lookF (ns ++ [r.1]) rs).map (none :: ·)
    | some o => match posI ns o with
      | none => .error "NoCord"
      | some i => (lookF (ns ++ [r.1]) rs).map (some i :: ·)
def lookB (R : Rc) : Except String (List (Option Int)) := lookF [] R
theorem lookF_err {x : String} : ∀ {ns : List Int} {R : Rc}, lookF ns R = .error x → x = "Taken" ∨ x = "NoCord"
  | _, [], h => by cases h
  | ns, r :: rs, h => by
    unfold lookF at h
    split at h
    · cases h; exact .inl rfl
    · split at h
      · cases e : lookF (ns ++ [r.1]) rs with
        | ok v => rw [e] at h; cases h
        | error y => rw [e] at h; cases h; exact lookF_err e
      · split at h
        · cases h; exact .inr rfl
        · cases e : lookF (ns ++ [r.1]) rs with
          | ok v => rw [e] at h; cases h
          | error y => rw [e] at h; cases h; exact lookF_err e
theorem map_map_ex {ε α β γ : Type} (f : α → β) (g : β → γ) (x : Except ε α) : (x.map f).map g = x.map (fun y => g (f y)) := by
  cases x <;> rfl
section
variable {K : PySem.W.Frag} {vs : List V} {H : Hp} {Q : VK} {E : XK}
theorem RcAll.split {H : Hp} {P : Addr → Prop} {v : V} {vr : List V} {R : Rc} (h : RcAll H P (v :: vr) R) : ∃ r rs t k, R = r :: rs ∧ v = .ref t ∧ H t = some (.tup (rwV r k)) ∧ H k = some (.lst (r.2.2.map oV)) ∧ P k ∧ RcAll H P vr rs := by
  cases h with
  | cons h1 h2 h3 h4 => exact ⟨_, _, _, _, rfl, rfl, h1, h2, h3, h4⟩
def sp_looked (K : PySem.W.Frag) : Sp := fun vs H Q E => ∃ p R P, vs = [.ref p] ∧ RecAt H P p R ∧ R.length ≤ 900 ∧
  (∀ ov q H', lookB R = .ok ov → Same H H' → H q = none → H' q = some (.lst (ov.map oV)) → Q (.ref q) H') ∧ ∀ x H', lookB R = .error x → Same H H' → E (.ref (He.ga K (Str.ofString x))) none H'
/-- looked: slots record, places, found, row -/
def p0_looked (K : PySem.W.Frag) (E : XK) : TS :=
  sDPut (tVar 1) (tOp (rIxT K) (tVar 3) (tC (.int 0))) (tOp rSubI (tCB (rLenL K) (tCons (tVar 2) tNil)) (tC (.int 1)))
def p1_looked (K : PySem.W.Frag) (E : XK) : TS :=
  tSeq (tIfS (tTest (tOp rIsN (tOp (rIxT K) (tVar 3) (tC (.int 1))) (tC .non))) (tDrop (tBM K "list" rAppend (tVar 2) (tCons (tC .non) tNil))) (tIfS (tB (tDIn (tOp (rIxT K) (tVar 3) (tC (.int 1))) (tVar 1))) (tDrop (tBM K "list" rAppend (tVar 2) (tCons (tDGet (tVar 1) (tOp (rIxT K) (tVar 3) (tC (.int 1)))) tNil))) (tRaise E (He.ga K "NoCord")))) (p0_looked K E)
def p2_looked (K : PySem.W.Frag) (E : XK) : TS :=
  tSeq (tIfS (tB (tDIn (tOp (rIxT K) (tVar 3) (tC (.int 0))) (tVar 1))) (tRaise E (He.ga K "Taken")) tNext) (p1_looked K E)
def t_looked (K : PySem.W.Frag) (E : XK) : TS :=
  tSeq (tAsg tDNewK (gName 1)) (tSeq (tAsg (tLst tNil) (gName 2)) (tSeq (tFor (iList K (tVar 0)) (gName 3) (p2_looked K E)) (tRet (tVar 2))))
abbrev n_looked : List Str := ["record", "places", "found", "row"]

theorem len_looked (h : sp_looked K vs H Q E) : vs.length = (["record"] : List Str).length := by
  obtain ⟨_, _, _, rfl, _⟩ := h
  rfl
theorem pure_looked (K : PySem.W.Frag) (vs : List V) (H : Hp) (Q : VK) (E : XK) (h : sp_looked K vs H Q E) : t_looked K E { nx := fun _ H' => Q .non H', rt := Q } (start n_looked vs) H := by
  obtain ⟨p, R, P, rfl, ⟨xs, hp, _, dp⟩, hl, q, qe⟩ := h
  have hxl := dp.len
  unfold t_looked
  walk_at "go"
  intro d hd
  walk_at "go"
  intro f hf
  walk_at "go"
  have s1 : Same H (upd H d (.dK [])) := same_new hd
  have s2 : Same (upd H d (.dK [])) (upd (upd H d (.dK [])) f (.lst [])) := same_new hf
  have s02 := s1.trans s2
  have fH := s1.free hf
  refine g_forL ?_
  walk_at "go"
  refine for_go (xs := xs) ?_
  refine forL_run (fun l r σ H' => ∃ (w3 : Option V) (Rd Rt : Rc) (fov : List (Option Int)) (kvs : List (Key × V)), σ = [some (.ref p), some (.ref d), some (.ref f), w3] ∧ Same H H' ∧ RcAll H' (fun a => P a ∧ a ≠ f) r Rt ∧ H' d = some (.dK kvs) ∧ H' f = some (.lst (fov.map oV)) ∧ R = Rd ++ Rt ∧ fov.length = Rd.length ∧ kvs.length ≤ Rd.length ∧ (∀ k, valV kvs (Sum.inl k) = (posI (Rd.map (·.1)) k).map V.int) ∧ lookB R = (lookF (Rd.map (·.1)) Rt).map (fov ++ ·)) ?_ ?_ ?_ ⟨_, [], R, [], [], rfl, s02, dp.move (fun a ys ha => s02 _ _ ha) (fun a ys h1 h2 => ⟨s02 _ _ h1, h2, fun z => by (rw [z, fH] at h1; cases h1)⟩), s2 _ _ upd_same, upd_same, rfl, rfl, Nat.le_refl _, fun k => rfl, ?_⟩
  · rintro l r σ H1 ⟨w3, Rd, Rt, fov, kvs, rfl, s1, _⟩
    exact SqL.of (s1 _ _ hp)
  · rintro l x r σ H1 N ⟨w3, Rd, Rt, fov, kvs, rfl, s1, dr, hd1, hf1, eR, fl, kl, hk, el⟩ hN
    obtain ⟨w, Rt, t, k, rfl, rfl, ht, hkk, hP, dr⟩ := dr.split
    have nfd : f ≠ d := ne_kd hf1 hd1 (by intro z; cases z)
    have hRl : Rd.length < 900 := by
      rw [eR, List.length_append, List.length_cons] at hl
      omega
    unfold lookF at el
    walk_at "go"
    unfold p2_looked
    walk_at "go"
    refine g_ixT (SqT.of ht) (show atI (rwV w k) 0 = some (.int w.1) from rfl) ?_
    walk_at "go"
    refine ⟨d, _, rfl, DGet.k (k := Sum.inl w.1) hd1, ?_⟩
    walk_at "go"
    rw [hk]
    cases hp1 : posI (Rd.map (·.1)) w.1 with
    | some i =>
      have hm : w.1 ∈ Rd.map (·.1) := Decidable.of_not_not fun z => by rw [posI_none.mpr z] at hp1; cases hp1
      rw [if_pos hm] at el
      rw [Option.map_some, Option.isSome_some]
      walk_at "go"
      exact qe "Taken" H1 el s1
    | none =>
      rw [if_neg (posI_none.mp hp1)] at el
      -- behind the entry
      have last : ∀ (u : Option Int) (Hx : Hp), Same H Hx → Hx d = some (.dK kvs) → Hx f = some (.lst ((fov ++ [u]).map oV)) → RcAll Hx (fun a => P a ∧ a ≠ f) r Rt → Hx t = some (.tup (rwV w k)) → lookB R = ((lookF ((Rd ++ [w]).map (·.1)) Rt).map (u :: ·)).map (fov ++ ·) → ∀ D : Ends, D.nx = N → p0_looked K E D [some (.ref p), some (.ref d), some (.ref f), some (.ref t)] Hx := by
        intro u Hx sx hdx hfx drx htx elx D hD
        unfold p0_looked
        walk_at "go"
        refine g_lenL (SqL.of hfx) ?_
        walk_at "go"
        refine g_ixT (SqT.of htx) (show atI (rwV w k) 0 = some (.int w.1) from rfl) ?_
        refine ⟨d, _, rfl, DPut.k (k := Sum.inl w.1) hdx (sz_lt (by omega)), ?_⟩
        rw [hD]
        refine hN _ _ ⟨_, Rd ++ [w], Rt, fov ++ [u], _, rfl, same_mut sx hd, ?_, upd_same, by rw [upd_ne nfd]; exact hfx, by rw [eR, List.append_assoc] <;> rfl, by rw [List.length_append, List.length_append, List.length_singleton, List.length_singleton, fl], ?_, fun j => ?_, ?_⟩
        · exact drx.move (fun a ys ha => by rw [upd_ne (ne_kd ha hdx (by intro z; cases z))]; exact ha) fun a ys h1 h2 => ⟨by rw [upd_ne (ne_kd h1 hdx (by intro z; cases z))]; exact h1, h2⟩
        · rw [List.length_append, List.length_singleton]
          have := length_putK kvs (Sum.inl w.1) (V.int (((fov ++ [u]).map oV).length - 1))
          omega
        · rw [valV_put, show (Rd ++ [w]).map (·.1) = Rd.map (·.1) ++ [w.1] from by rw [List.map_append] <;> rfl, posI_snoc, hk]
          by_cases e : j = w.1
          · subst e
            rw [if_pos rfl, hp1]
            dsimp only
            rw [if_pos rfl, List.length_map, List.length_map, List.length_append, List.length_singleton, fl]
            show some (V.int _) = some (V.int _)
            congr 2
            omega
          · rw [if_neg (fun z => e (Sum.inl.inj z))]
            cases posI (Rd.map (·.1)) j with
            | some i => rfl
            | none =>
              dsimp only
              rw [if_neg (fun z => e z.symm)]
        · rw [elx, map_map_ex]
          congr 1
          funext y
          rw [List.append_assoc] <;> rfl
      rw [Option.map_none, Option.isSome_none]
      walk_at "nx"
      unfold p1_looked
      walk_at "go"
      refine g_ixT (SqT.of ht) (show atI (rwV w k) 1 = some (oV w.2.1) from rfl) ?_
      have hfl : (fov.map oV).length < sizeLine := sz_lt (by rw [List.length_map]; omega)
      have app : ∀ u : Option Int, Same H (upd H1 f (.lst (fov.map oV ++ [oV u]))) ∧ upd H1 f (.lst (fov.map oV ++ [oV u])) d = some (.dK kvs) ∧ upd H1 f (.lst (fov.map oV ++ [oV u])) f = some (.lst ((fov ++ [u]).map oV)) ∧ upd H1 f (.lst (fov.map oV ++ [oV u])) t = some (.tup (rwV w k)) := fun u =>
        ⟨same_mut s1 fH, by rw [upd_ne (Ne.symm nfd)]; exact hd1, by rw [upd_same, List.map_append] <;> rfl, by rw [upd_ne (ne_kd ht hf1 (by intro z; cases z))]; exact ht⟩
      cases eo : w.2.1 with
      | none =>
        rw [eo] at el
        walk_at "go"
        refine ⟨ty_list (SqL.of hf1), ?_⟩
        walk_at "go"
        refine g_append (y := oV none) hf1 hfl ?_
        walk_at "go"
        obtain ⟨a1, a2, a3, a4⟩ := app none
        exact last none _ a1 a2 a3 (dr.move (fun a ys ha => by rw [upd_ne (ne_kd ha hf1 (by intro z; cases z))]; exact ha) fun a ys h1 h2 => ⟨by rw [upd_ne (h2.2)]; exact h1, h2⟩) a4 (by rw [el, List.map_append] <;> rfl) _ rfl
      | some o =>
        rw [eo] at el
        walk_at "go"
        refine g_ixT (SqT.of ht) (show atI (rwV w k) 1 = some (oV w.2.1) from rfl) ?_
        rw [eo]
        walk_at "go"
        refine ⟨d, _, rfl, DGet.k (k := Sum.inl o) hd1, ?_⟩
        rw [hk]
        dsimp only at el
        cases hp2 : posI (Rd.map (·.1)) o with
        | none =>
          rw [hp2] at el
          rw [Option.map_none, Option.isSome_none]
          walk_at "go"
          exact qe "NoCord" H1 el s1
        | some i =>
          rw [hp2] at el
          rw [Option.map_some, Option.isSome_some]
          walk_at "go"
          refine ⟨ty_list (SqL.of hf1), ?_⟩
          walk_at "go"
          refine g_ixT (SqT.of ht) (show atI (rwV w k) 1 = some (oV w.2.1) from rfl) ?_
          rw [eo]
          walk_at "go"
          refine ⟨d, .int i, rfl, ?_, ?_⟩
          · have := DGet.k (k := Sum.inl o) hd1
            rw [hk, hp2] at this
            exact this
          walk_at "go"
          refine g_append (y := oV (some i)) hf1 hfl ?_
          walk_at "go"
          obtain ⟨a1, a2, a3, a4⟩ := app (some i)
          exact last (some i) _ a1 a2 a3 (dr.move (fun a ys ha => by rw [upd_ne (ne_kd ha hf1 (by intro z; cases z))]; exact ha) fun a ys h1 h2 => ⟨by rw [upd_ne (h2.2)]; exact h1, h2⟩) a4 (by rw [el, List.map_append] <;> rfl) _ rfl
  · rintro σ H1 ⟨w3, Rd, Rt, fov, kvs, rfl, s1, dr, hd1, hf1, eR, fl, kl, hk, el⟩
    cases dr
    walk_at "go"
    refine q fov f H1 ?_ s1 fH hf1
    rw [el]
    show Except.ok (fov ++ []) = _
    rw [List.append_nil]
  · unfold lookB
    show lookF [] R = (lookF [] R).map fun y => y
    cases lookF [] R <;> rfl
def sp_law_copy (K : PySem.W.Frag) : Sp := fun vs H Q _ => ∃ p R P, vs = [.ref p] ∧ RecAt H P p R ∧ R.length ≤ 900 ∧ ∀ q H', Same H H' → RecNew H H' q R → Q (.ref q) H'
/-- _law_copy: slots record, row -/
def t_law_copy (K : PySem.W.Frag) (E : XK) : TS :=
  tRet (tLc (iList K (tVar 0)) (gName 1) tYes (tTup (tCons (tOp (rIxT K) (tVar 1) (tC (.int 0))) (tCons (tOp (rIxT K) (tVar 1) (tC (.int 1))) (tCons (tCB (rListL K) (tCons (tOp (rIxT K) (tVar 1) (tC (.int 2))) tNil)) tNil)))) [1])
abbrev n_law_copy : List Str := ["record", "row"]

theorem len_law_copy (h : sp_law_copy K vs H Q E) : vs.length = (["record"] : List Str).length := by
  obtain ⟨_, _, _, rfl, _⟩ := h
  rfl
theorem pure_law_copy (K : PySem.W.Frag) (vs : List V) (H : Hp) (Q : VK) (E : XK) (h : sp_law_copy K vs H Q E) : t_law_copy K E { nx := fun _ H' => Q .non H', rt := Q } (start n_law_copy vs) H := by
  obtain ⟨p, R, P, rfl, ⟨xs, hp, _, dp⟩, hl, q⟩ := h
  have hxl := dp.len
  unfold t_law_copy
  walk_at "go"
  refine g_lcL ?_
  walk_at "go"
  refine lc_go (xs := xs) (SqL.of hp) fun L hL => ?_
  have run : ∀ (r acc : List V) (Rd Rt : Rc) (H2 : Hp), R = Rd ++ Rt → RcAll H2 (fun a => P a ∧ a ≠ L) r Rt → Same H H2 → H2 L = some (.lst acc) → RcAll H2 (fun a => H a = none ∧ a ≠ L) acc Rd →
      lcRun K p xs (gName 1) tYes (tTup (tCons (tOp (rIxT K) (tVar 1) (tC (.int 0))) (tCons (tOp (rIxT K) (tVar 1) (tC (.int 1))) (tCons (tCB (rListL K) (tCons (tOp (rIxT K) (tVar 1) (tC (.int 2))) tNil)) tNil)))) [1] (L2.start n_law_copy [V.ref p]) L Q r H2 := by
    intro r
    induction r with
    | nil =>
      intro acc Rd Rt H2 eR dr s2 h2 da
      cases dr
      rw [List.append_nil] at eR
      subst eR
      exact ⟨SqL.of (s2 _ _ hp), q L H2 s2 ⟨acc, h2, hL, da⟩⟩
    | cons x r ih =>
      intro acc Rd Rt H2 eR dr s2 h2 da
      refine ⟨SqL.of (s2 _ _ hp), ?_⟩
      obtain ⟨w, Rt, t, k, rfl, rfl, ht, hkk, hP, dr⟩ := dr.split
      walk_at "go"
      refine g_ixT (SqT.of ht) (show atI (rwV w k) 0 = some (.int w.1) from rfl) ?_
      walk_at "go"
      refine g_ixT (SqT.of ht) (show atI (rwV w k) 1 = some (oV w.2.1) from rfl) ?_
      walk_at "go"
      refine g_ixT (SqT.of ht) (show atI (rwV w k) 2 = some (.ref k) from rfl) ?_
      walk_at "go"
      refine g_listL (SqL.of hkk) fun k2 hk2 => ?_
      walk_at "go"
      intro t2 ht2
      have s3 : Same H2 (upd H2 k2 (.lst (w.2.2.map oV))) := same_new hk2
      have s4 : Same (upd H2 k2 (.lst (w.2.2.map oV))) (upd (upd H2 k2 (.lst (w.2.2.map oV))) t2 (.tup [.int w.1, oV w.2.1, .ref k2])) := same_new ht2
      have s34 := s3.trans s4
      have hRl : Rd.length < 900 := by
        rw [eR, List.length_append, List.length_cons] at hl
        omega
      have hal := da.len
      have h3 := s34 _ _ h2
      refine ⟨acc, h3, sz_lt (by omega), ?_⟩
      refine ih (acc ++ [.ref t2]) (Rd ++ [w]) Rt _ (by rw [eR, List.append_assoc] <;> rfl) ?_ (same_mut (s2.trans s34) hL) upd_same ?_
      · exact (dr.same s34).upd h3 fun a h => h.2
      · exact ((da.same s34).snoc (r := w) (t := t2) (k := k2) upd_same (s4 _ _ upd_same) ⟨s2.free hk2, Ne.symm (ne_of_none h2 hk2)⟩).upd h3 fun a h => h.2
  exact run xs [] [] R _ rfl (dp.move (fun a ys ha => same_new hL _ _ ha) fun a ys h1 h2 => ⟨same_new hL _ _ h1, h2, fun z => by (rw [z, hL] at h1; cases h1)⟩) (same_new hL) upd_same .nil
end
end Cor

/-! ## PuSs0 -/
/-! ### sorted(set(a list of ints)) -/
namespace Cor
open PySem PySem.Spec PyProof.Rows L2
section
variable {P : Program} {w : World} {A : Around} {E : Value → Shared → Prop} {s : Shared}
/-- set(l), l a list of ints: turned from the worked rule for tuples -/
theorem call_set_listI {l : Addr} {items : Array Value} (ns : List Int) {Q : Value → Shared → Prop} (hh : A.handled = none) (hl : s.heap.IsList l items) (hit : IntsAre items.toList ns) (hb : ns.length + 1 < scanBound)
    (h : ∀ (h' : Heap) (tk c : Nat), SetR w h' s.heap.objs.size (fun j => decide (j ∈ ns)) c → c ≤ ns.length → (∀ b o, s.heap.get? b = some o → h'.get? b = some o) → Q (.ref s.heap.objs.size) { s with heap := h', toks := tk }) :
    wpAny (model P w) A (call (.type "set") [.ref l]) Q E s := by
  have hisz : items.size = ns.length := by
    have q := IntsAre.length hit
    rw [Array.length_toList] at q
    exact q
  obtain ⟨c, tl, hmro⟩ := F.called_set.mro
  have hmade := F.called_set.made
  have hsub := F.called_set.sub
  refine wpAny_call (codeAny_of_tree ?_)
  show wpAny _ _ (callAny (.type "set") _) _ _ _
  refine wpAny_pure ⟨Code.quiet_builtin _ (by decide +kernel), codeAny_builtin F.entry_type_call ?_⟩
  rw [Around.under_plain (weight_type_call_type "set" [.ref l] []) rfl]
  have h1 := F.called_set.notType
  have h2 := F.called_set.canCreate
  have hct := F.typeCall_set_1 (.ref l)
  repeat (any_goals (first | assumption | wp_step))

  refine codeAny_mono (code_set_led1 (.ref l) (E := E) (Q₁ := fun obj s₁ => obj = .ref s.heap.objs.size ∧ s₁ = { s with heap := s.heap.push { cls := .type "set", dict := none, data := .set #[] 0 (.fresh 0 0 (!w.params.followText "set-order")) } }) ⟨rfl, rfl⟩) fun r s₁ hr => ?_
  cases r with
  | error e => exact hr
  | ok fl =>
    cases fl with
    | ret obj =>
      obtain ⟨rfl, rfl⟩ := hr
      have hS : (s.heap.push { cls := .type "set", dict := none, data := .set #[] 0 (.fresh 0 0 (!w.params.followText "set-order")) }).get? s.heap.objs.size = some { cls := .type "set", dict := none, data := .set #[] 0 (.fresh 0 0 (!w.params.followText "set-order")) } := Heap.get?_push_size _ rfl
      have hT : Shared.TypeIs { s with heap := s.heap.push { cls := .type "set", dict := none, data := .set #[] 0 (.fresh 0 0 (!w.params.followText "set-order")) } } (.ref s.heap.objs.size) "set" := ⟨_, hS, rfl⟩
      have hli := F.called_set.init.lookup
      have hbi := F.called_set.init.bind (.ref s.heap.objs.size)
      repeat (any_goals (first | assumption | wp_step))

      refine codeAny_mono (codeAny_call_builtin (R := wants (fun r s₂ => r = .none ∧ ∃ h' tk c, s₂ = { s with heap := h', toks := tk } ∧ SetR w h' s.heap.objs.size (fun j => decide (j ∈ ns)) c ∧ c ≤ ns.length ∧
          (∀ b o, s.heap.get? b = some o → h'.get? b = some o)) E) F.called_set.init.plain F.entry_set_init (check_set_init_1 hT ?_)) fun r₂ s₂ hr₂ => ?_
      · obtain ⟨ol, hol, hcl, nl, hdl⟩ := hl
        obtain ⟨ocls, odict, odata, oslots⟩ := ol
        simp only at hcl hdl
        subst hcl; subst hdl
        have hol' : (s.heap.push { cls := .type "set", dict := none, data := .set #[] 0 (.fresh 0 0 (!w.params.followText "set-order")) }).get? l = some { cls := .type "list", dict := odict, data := .seq items nl, slots := oslots } := Heap.get?_push_of_some _ hol
        have hsls := F.sub_list_set
        have hslf := F.sub_list_frozenset
        have hne : (Value.type "list" == Value.type "dict") = false := by decide
        have hl1 : (s.heap.push { cls := .type "set", dict := none, data := .set #[] 0 (.fresh 0 0 (!w.params.followText "set-order")) }).IsList l items := ⟨_, hol', rfl, nl, rfl⟩
        unfold Builtin.«set.__init__» noKeywords Builtin.Frozenset.updateFrom
        generalize hPI : pyIter = PI
        wp_walk
        subst hPI

        refine wpAny_pyIter_list hl1 ?_
        refine wpAny_bind (wpAny_runValue ?_)
        have hlS : l < s.heap.objs.size := Heap.lt_size hol
        have hh3 : A.in1.in1.in1.handled = none := by simp [hh]
        have hz1 : (s.heap.push { cls := .type "set", dict := none, data := .set #[] 0 (.fresh 0 0 (!w.params.followText "set-order")) }).objs.size = s.heap.objs.size + 1 := Heap.size_push ..
        have hneI : l ≠ (s.heap.push { cls := .type "set", dict := none, data := .set #[] 0 (.fresh 0 0 (!w.params.followText "set-order")) }).objs.size := by
          rw [Heap.size_push]; exact Nat.ne_of_lt (Nat.lt_succ_of_lt hlS)
        have hSf : s.heap.objs.size ∉ [(s.heap.push { cls := .type "set", dict := none, data := .set #[] 0 (.fresh 0 0 (!w.params.followText "set-order")) }).objs.size, l] := by
          rw [Heap.size_push]; simp only [List.mem_cons, List.mem_singleton, List.not_mem_nil, or_false, not_or]
          exact ⟨Nat.ne_of_lt (Nat.lt_succ_self _), Nat.ne_of_gt hlS⟩
        have hval : ∀ (i : Nat) (v : Value), items[i]? = some v → ∃ k t, ns[i]? = some k ∧ v = .int k t := fun i v hv => by
          have hi : i < ns.length := by rw [← hisz]; exact (Array.getElem?_eq_some_iff.mp hv).1
          obtain ⟨t, e⟩ := PyProof.Rows.IntsAre.int_at hit i v (by rw [Array.getElem?_toList]; exact hv)
          refine ⟨ns[i], t, List.getElem?_eq_getElem hi, ?_⟩
          rw [e, List.getD_eq_getElem?_getD, List.getElem?_eq_getElem hi] <;> rfl
        refine set_update_ints ((Walks.list hh3 _ l hneI items).toS) s.heap.objs.size
          hSf ns hisz hb hval (items.size - 0) 0 _ (by omega) (Nat.zero_le _)
          ⟨⟨_, Heap.get?_push_size _ rfl, rfl, rfl⟩, (hl1.push _)⟩ ?hS0 ?hR
        case hS0 =>
          have hget : ((s.heap.push { cls := .type "set", dict := none, data := .set #[] 0 (.fresh 0 0 (!w.params.followText "set-order")) }).push { cls := .type "list_iterator", data := .fields #[.ref l, .int 0 0] }).get? s.heap.objs.size
              = some { cls := .type "set", dict := none, data := .set #[] 0 (.fresh 0 0 (!w.params.followText "set-order")) } := Heap.get?_push_of_some _ hS
          exact ⟨0, Nat.le_refl 0, setR_new_at hget⟩
        case hR =>
          intro s' c' hm hc' hS'
          obtain ⟨h', g2, d', tk', os'⟩ := s'
          have eg : g2 = s.gens := hm.gens
          have ed : d' = s.drawn := hm.drawn
          have eo : os' = s.os := hm.os
          subst eg; subst ed; subst eo
          show wpAny _ _ _ _ _ _
          refine wpAny_pure ?_
          show wpAny _ _ (ret Value.none) _ _ _
          rw [hisz] at hc'
          refine wpAny_pure ⟨rfl, h', tk', c', rfl, hS', hc', fun b o e => ?_⟩
          have hb0 : b < s.heap.objs.size := Heap.lt_size e
          have hb1 : b ≠ s.heap.objs.size := Nat.ne_of_lt hb0
          have hb2 : b ≠ (s.heap.push { cls := .type "set", dict := none, data := .set #[] 0 (.fresh 0 0 (!w.params.followText "set-order")) }).objs.size := by
            rw [Heap.size_push]; exact Nat.ne_of_lt (Nat.lt_succ_of_lt hb0)
          exact hm.heap b o (by simp only [List.mem_cons, List.mem_singleton, List.not_mem_nil, or_false, not_or]; exact ⟨hb1, hb2⟩) (Heap.get?_push_of_some _ (Heap.get?_push_of_some _ e))

      · cases r₂ with
        | error e => exact hr₂
        | ok fl₂ =>
          cases fl₂ with
          | ret r =>
            obtain ⟨rfl, h', tk, c', rfl, hS', hc', hk'⟩ := hr₂
            repeat (any_goals (first | assumption | wp_step))
            exact h _ _ _ hS' hc' hk'
          | _ => exact hr₂.elim
    | _ => exact hr.elim

end
end Cor

/-! ## PuSs -/
namespace Cor
open PySem PySem.Spec PyProof.Rows L2
/-- sorted(set(x)), x a list of few ints -/
def tSortSet (K : PySem.W.Frag) (te : TE) : TE := fun σ H Q => te σ H fun v H1 => ∃ (a : Addr) (ns : List Int), v = .ref a ∧ SqL K H1 a (ns.map V.int) ∧ ns.length ≤ 3000 ∧ (∀ x ∈ ns, 0 ≤ x ∧ x ≤ 9) ∧
  ∀ (out : List Int) q, out.Pairwise (· < ·) → (∀ k, k ∈ out ↔ k ∈ ns) → H1 q = none → Q (.ref q) (upd H1 q (.lst (out.map V.int)))
theorem nodup_le {l : List Int} : ∀ {m : List Int}, l.Nodup → (∀ x ∈ l, x ∈ m) → l.length ≤ m.length := by
  induction l with
  | nil => intro m _ _; exact Nat.zero_le _
  | cons a l ih =>
    intro m hn hs
    rw [List.nodup_cons] at hn
    have ha := hs a List.mem_cons_self
    have h1 : l.length ≤ (m.erase a).length := ih hn.2 fun x hx => by
      refine (List.mem_erase_of_ne ?_).mpr (hs x (List.mem_cons_of_mem _ hx))
      rintro rfl
      exact hn.1 hx
    rw [List.length_erase_of_mem ha] at h1
    have := List.length_pos_of_mem ha
    rw [List.length_cons]
    omega
theorem ten_le {l : List Int} (hn : l.Nodup) (hb : ∀ x ∈ l, 0 ≤ x ∧ x ≤ 9) : l.length ≤ 10 :=
  nodup_le (m := [0, 1, 2, 3, 4, 5, 6, 7, 8, 9]) hn fun x hx => by
    have := hb x hx
    have h : x = 0 ∨ x = 1 ∨ x = 2 ∨ x = 3 ∨ x = 4 ∨ x = 5 ∨ x = 6 ∨ x = 7 ∨ x = 8 ∨ x = 9 := by omega
    rcases h with rfl | rfl | rfl | rfl | rfl | rfl | rfl | rfl | rfl | rfl <;> decide
section
variable {X : Cx}
theorem pe_sortset {e : Expr} {te : TE} {p p2 pos pos2 : Pos} (hc : X.calm = true) (hg : Gl X "sorted") (hm : X.mg "sorted" = none) (hg2 : Gl X "set") (hm2 : X.mg "set" = none) (he : PE X e te)
    (hs : starEach [e] X.env = (false, eval e X.env) :: starEach [] X.env := by rfl)
    (hs2 : starEach [.Call (.Name "set" p2) [e] [] pos2] X.env = (false, eval (.Call (.Name "set" p2) [e] [] pos2) X.env) :: starEach [] X.env := by rfl) :
    PE X (.Call (.Name "sorted" p) [.Call (.Name "set" p2) [e] [] pos2] [] pos) (tSortSet X.K te) := by
  refine ⟨fun pins s σ H Q I h => ?_⟩
  refine Call_ (ld_blt I hg hm boot_sorted ?_)
  refine PyProof.Rows.callWith_builtin1 (PyProof.Rows.args_cons ?_ hs2) rfl rfl
  refine Call_ (ld_blt I hg2 hm2 boot_set ?_)
  refine PyProof.Rows.callWith_type1 (PyProof.Rows.args_cons (thn (he.run pins s σ H _ I h) fun u s1 ⟨v, H1, I1, r1, q1⟩ => PyProof.Rows.args_nil ?_) hs) hs rfl
  obtain ⟨a, ns, rfl, hq, hl, hb, q⟩ := q1
  cases r1
  obtain ⟨its, rv, pl, hz⟩ := I1.list hq
  have hi : IntsAre its.toArray.toList ns := ints_of_vals rv
  have hd := I1.ok.hd hc
  refine call_set_listI ns hd pl.isList hi (by unfold scanBound; omega) fun h' tk c R1 hcn k => ?_
  refine PyProof.Rows.args_nil ?_
  have I2 : Inv X pins σ H1 { s1 with heap := h', toks := tk } := I1.kept k
  have h64 : c < 64 := by
    obtain ⟨o, es, ep, t, ho, hex, hdt, g, nd, hm2, hb2, hf, hn, hr, hl2⟩ := id R1
    have h10 := ten_le nd fun x hx => hb x (of_decide_eq_true ((hm2 x).mpr hx))
    rw [List.length_map, Array.length_toList, hn] at h10
    omega
  refine sorted_set (s := { s1 with heap := h', toks := tk }) R1 hd h64 fun s' p out c2 os k2 g o hp hg3 hi2 hs3 hm3 hl3 => ?_
  have hlen : (os.map V.int).length ≤ sizeLine := by rw [List.length_map, hl3, sizeLine_eq]; omega
  have hn : H1 p = none := I2.hok.fresh hp
  have J : Inv X pins σ (upd H1 p (.lst (os.map V.int))) { ({ s1 with heap := h', toks := tk } : Shared) with heap := s'.heap, gens := s'.gens, drawn := s'.drawn, toks := s'.toks } :=
    I2.call (ch := []) (Un.laid k2 hp hn) (I2.hok.laid k2 hp ⟨hlen, out.toList, c2, vals_of_ints hi2, hg3⟩) (by rw [g]; exact I2.bare) (fun _ z => nomatch z)
  have e : s' = { ({ s1 with heap := h', toks := tk } : Shared) with heap := s'.heap, gens := s'.gens, drawn := s'.drawn, toks := s'.toks } := by
    cases s'
    cases o
    rfl
  rw [e]
  exact ⟨.ref p, _, J, rfl, q os p hs3 (fun k => (hm3 k).trans decide_eq_true_iff) hn⟩
end
end Cor

/-! ## PuMt -/
/-! ### two copies met -/
namespace Cor
open PySem PySem.Spec PyProof.Rows L2
def oP : Option Int → PyData
  | none => .none
  | some i => .int i
def shD (x : Int × Option Int) : PyData := .tuple [.int x.1, oP x.2]
def shR (R : Rc) : List (Int × Option Int) := R.map fun r => (r.1, r.2.1)
theorem shD_eqv : ∀ l m : List (Int × Option Int), PyData.eqvAll (l.map shD) (m.map shD) = decide (l = m)
  | [], [] => rfl
  | [], _ :: _ => rfl
  | _ :: _, [] => rfl
  | (n, o) :: l, (n', o') :: m => by
    have ih := shD_eqv l m
    show (PyData.eqv (shD (n, o)) (shD (n', o')) && PyData.eqvAll (l.map shD) (m.map shD)) = _
    rw [ih]
    have e : PyData.eqv (shD (n, o)) (shD (n', o')) = decide ((n, o) = (n', o')) := by
      show (PyData.eqv (.int n) (.int n') && (PyData.eqv (oP o) (oP o') && true)) = _
      have e1 : PyData.eqv (.int n) (.int n') = decide (n = n') := by
        show (n == n') = _
        rfl
      have e2 : PyData.eqv (oP o) (oP o') = decide (o = o') := by
        cases o with
        | none => cases o' with
          | none => rfl
          | some j => rfl
        | some i => cases o' with
          | none => rfl
          | some j =>
            show (i == j) = _
            by_cases q : i = j
            · subst q; simp
            · simp [q]
      rw [e1, e2, Bool.and_true, ← Bool.decide_and]
      exact decide_eq_decide.mpr ⟨fun h => by rw [h.1, h.2], fun h => by injection h with h1 h2; exact ⟨h1, h2⟩⟩
    rw [e, ← Bool.decide_and]
    exact decide_eq_decide.mpr ⟨fun h => by rw [h.1, h.2], fun h => by injection h with h1 h2; exact ⟨h1, h2⟩⟩
theorem sh_shaped (l : List (Int × Option Int)) : SeqAt.shaped (.list (l.map shD)) = true := by
  have key : ∀ l : List (Int × Option Int), PyData.canLayAll0 (l.map shD) = true ∧ PyData.depthAll (l.map shD) ≤ 1 := by
    intro l
    induction l with
    | nil => exact ⟨rfl, by show (0 : Nat) ≤ 1; decide⟩
    | cons p r ih =>
      obtain ⟨h1, h2⟩ := ih
      have c1 : (shD p).canLay0 = true := by
        show (true && ((oP p.2).canLay0 && true)) = true
        cases p.2 <;> rfl
      have d1 : (shD p).depth = 1 := by
        show max 0 (max (oP p.2).depth 0) + 1 = 1
        cases p.2 <;> rfl
      refine ⟨?_, ?_⟩
      · show ((shD p).canLay0 && PyData.canLayAll0 (r.map shD)) = true
        rw [c1, h1] <;> rfl
      · show max (shD p).depth (PyData.depthAll (r.map shD)) ≤ 1
        rw [d1]
        omega
  obtain ⟨h1, h2⟩ := key l
  unfold SeqAt.shaped
  rw [Bool.and_eq_true_iff]
  refine ⟨h1, decide_eq_true ?_⟩
  show PyData.depthAll (l.map shD) + 1 ≤ 64
  omega
def mergeF : Option Int → Option Int → Option (Option Int)
  | none, b => some b
  | some x, none => some (some x)
  | some x, some y => if y = x then some (some x) else none
def metK : List (Option Int) → List (Option Int) → Option (List (Option Int))
  | a :: as, b :: bs => match mergeF a b with
    | none => none
    | some c => (metK as bs).map (c :: ·)
  | _, _ => some []
def metF : Rc → Rc → Option Rc
  | r :: rs, s :: ss => match metK r.2.2 s.2.2 with
    | none => none
    | some k => (metF rs ss).map ((r.1, r.2.1, k) :: ·)
  | _, _ => some []
def metB (R S : Rc) : Except String Rc := match lookB R with
  | .error x => .error x
  | .ok _ => match lookB S with
    | .error x => .error x
    | .ok _ => if shR R ≠ shR S then .error "Unlike" else match metF R S with
      | none => .error "Parted"
      | some T => .ok T
section
variable {K : PySem.W.Frag} {vs : List V} {H : Hp} {Q : VK} {E : XK}
theorem dpOV {H : Hp} (o : Option Int) : Dp K H (oV o) (oP o) := by
  cases o with
  | none => exact .non
  | some i => exact .int i
inductive ShAll (H : Hp) : List V → List (Int × Option Int) → Prop
  | nil : ShAll H [] []
  | cons {t : Addr} {x : Int × Option Int} {vs : List V} {l : List (Int × Option Int)} : H t = some (.tup [.int x.1, oV x.2]) → ShAll H vs l → ShAll H (.ref t :: vs) (x :: l)
theorem ShAll.move {H H' : Hp} (kt : ∀ a xs, H a = some (.tup xs) → H' a = some (.tup xs)) : ∀ {vs l}, ShAll H vs l → ShAll H' vs l
  | _, _, .nil => .nil
  | _, _, .cons h1 h2 => .cons (kt _ _ h1) (ShAll.move kt h2)
theorem ShAll.snoc {H : Hp} {t : Addr} {x : Int × Option Int} (ht : H t = some (.tup [.int x.1, oV x.2])) : ∀ {vs l}, ShAll H vs l → ShAll H (vs ++ [.ref t]) (l ++ [x])
  | _, _, .nil => .cons ht .nil
  | _, _, .cons h1 h2 => .cons h1 (ShAll.snoc ht h2)
theorem ShAll.dp {H : Hp} : ∀ {vs l}, ShAll H vs l → DpAll K H vs (l.map shD)
  | _, _, .nil => .nil
  | _, _, .cons h1 h2 => .cons (.tup (SqT.of h1) (.cons (.int _) (.cons (dpOV _) .nil))) h2.dp
def sp_shape (K : PySem.W.Frag) : Sp := fun vs H Q _ => ∃ p R P, vs = [.ref p] ∧ RecAt H P p R ∧ R.length ≤ 900 ∧ ∀ q H' ws, Same H H' → H' q = some (.lst ws) → ShAll H' ws (shR R) → Q (.ref q) H'
/-- shape: slots record, row -/
def t_shape (K : PySem.W.Frag) (E : XK) : TS :=
  tRet (tLc (iList K (tVar 0)) (gName 1) tYes (tTup (tCons (tOp (rIxT K) (tVar 1) (tC (.int 0))) (tCons (tOp (rIxT K) (tVar 1) (tC (.int 1))) tNil))) [1])
abbrev n_shape : List Str := ["record", "row"]

theorem len_shape (h : sp_shape K vs H Q E) : vs.length = (["record"] : List Str).length := by
  obtain ⟨_, _, _, rfl, _⟩ := h
  rfl
theorem pure_shape (K : PySem.W.Frag) (vs : List V) (H : Hp) (Q : VK) (E : XK) (h : sp_shape K vs H Q E) : t_shape K E { nx := fun _ H' => Q .non H', rt := Q } (start n_shape vs) H := by
  obtain ⟨p, R, P, rfl, ⟨xs, hp, _, dp⟩, hl, q⟩ := h
  have hxl := dp.len
  unfold t_shape
  walk_at "go"
  refine g_lcL ?_
  walk_at "go"
  refine lc_go (xs := xs) (SqL.of hp) fun L hL => ?_
  have run : ∀ (r acc : List V) (Rd Rt : Rc) (H2 : Hp), R = Rd ++ Rt → RcAll H2 (fun a => P a ∧ a ≠ L) r Rt → Same H H2 → H2 L = some (.lst acc) → ShAll H2 acc (shR Rd) → acc.length = Rd.length →
      lcRun K p xs (gName 1) tYes (tTup (tCons (tOp (rIxT K) (tVar 1) (tC (.int 0))) (tCons (tOp (rIxT K) (tVar 1) (tC (.int 1))) tNil))) [1] (L2.start n_shape [V.ref p]) L Q r H2 := by
    intro r
    induction r with
    | nil =>
      intro acc Rd Rt H2 eR dr s2 h2 da la
      cases dr
      rw [List.append_nil] at eR
      subst eR
      exact ⟨SqL.of (s2 _ _ hp), q L H2 acc s2 h2 da⟩
    | cons x r ih =>
      intro acc Rd Rt H2 eR dr s2 h2 da la
      refine ⟨SqL.of (s2 _ _ hp), ?_⟩
      obtain ⟨w, Rt, t, k, rfl, rfl, ht, hkk, hP, dr⟩ := dr.split
      walk_at "go"
      refine g_ixT (SqT.of ht) (show atI (rwV w k) 0 = some (.int w.1) from rfl) ?_
      walk_at "go"
      refine g_ixT (SqT.of ht) (show atI (rwV w k) 1 = some (oV w.2.1) from rfl) ?_
      walk_at "go"
      intro t2 ht2
      have s3 : Same H2 (upd H2 t2 (.tup [.int w.1, oV w.2.1])) := same_new ht2
      have hRl : Rd.length < 900 := by
        rw [eR, List.length_append, List.length_cons] at hl
        omega
      have h3 := s3 _ _ h2
      refine ⟨acc, h3, sz_lt (by omega), ?_⟩
      have kt : ∀ a xs, (upd H2 t2 (.tup [.int w.1, oV w.2.1])) a = some (.tup xs) → (upd (upd H2 t2 (.tup [.int w.1, oV w.2.1])) L (.lst (acc ++ [.ref t2]))) a = some (.tup xs) := fun a ys ha => by
        rw [upd_ne (ne_kd ha h3 (by intro z; cases z))]
        exact ha
      refine ih (acc ++ [.ref t2]) (Rd ++ [w]) Rt _ (by rw [eR, List.append_assoc] <;> rfl) ?_ (same_mut (s2.trans s3) hL) upd_same ?_ (by rw [List.length_append, List.length_append, List.length_singleton, List.length_singleton, la])
      · exact (dr.same s3).upd h3 fun a h => h.2
      · rw [show shR (Rd ++ [w]) = shR Rd ++ [(w.1, w.2.1)] from by unfold shR; rw [List.map_append] <;> rfl]
        exact (ShAll.snoc (x := (w.1, w.2.1)) upd_same (da.move fun a ys ha => s3 _ _ ha)).move kt
  exact run xs [] [] R _ rfl (dp.move (fun a ys ha => same_new hL _ _ ha) fun a ys h1 h2 => ⟨same_new hL _ _ h1, h2, fun z => by (rw [z, hL] at h1; cases h1)⟩) (same_new hL) upd_same .nil rfl
def sp_met (K : PySem.W.Frag) : Sp := fun vs H Q E => ∃ p q R S P P', vs = [.ref p, .ref q] ∧ RecAt H P p R ∧ RecAt H P' q S ∧ Fig3 R ∧ Fig3 S ∧ R.length ≤ 900 ∧ S.length ≤ 900 ∧
  (∀ r H' T, metB R S = .ok T → Same H H' → RecNew H H' r T → Q (.ref r) H') ∧ ∀ x H', metB R S = .error x → Same H H' → E (.ref (He.ga K (Str.ofString x))) none H'
/-- met: slots ones, others, made, one, other, knots, place, figure, twin -/
def p0_met (K : PySem.W.Frag) (E : XK) : TS :=
  tDrop (tBM K "list" rAppend (tVar 5) (tCons (tVar 7) tNil))
def p1_met (K : PySem.W.Frag) (E : XK) : TS :=
  tSeq (tIfS (tAnd (tTest (tOp rNotN (tVar 8) (tC .non))) (tTest (tOp rNe (tVar 8) (tVar 7)))) (tRaise E (He.ga K "Parted")) tNext) (p0_met K E)
def p2_met (K : PySem.W.Frag) (E : XK) : TS :=
  tSeq (tAsg (tOp (rIxL K) (tOp (rIxT K) (tVar 3) (tC (.int 2))) (tVar 6)) (gName 7)) (tSeq (tAsg (tOp (rIxL K) (tOp (rIxT K) (tVar 4) (tC (.int 2))) (tVar 6)) (gName 8)) (tSeq (tIfS (tTest (tOp rIsN (tVar 7) (tC .non))) (tAsg (tVar 8) (gName 7)) tNext) (p1_met K E)))
def p3_met (K : PySem.W.Frag) (E : XK) : TS :=
  tDrop (tBM K "list" rAppend (tVar 2) (tCons (tTup (tCons (tOp (rIxT K) (tVar 3) (tC (.int 0))) (tCons (tOp (rIxT K) (tVar 3) (tC (.int 1))) (tCons (tVar 5) tNil)))) tNil))
def p4_met (K : PySem.W.Frag) (E : XK) : TS :=
  tSeq (tAsg (tLst tNil) (gName 5)) (tSeq (tFor (iRng1 (tCons (tC (.int 3)) tNil)) (gName 6) (p2_met K E)) (p3_met K E))
def p5_met (K : PySem.W.Frag) (E : XK) : TS :=
  tSeq (tAsg (tLst tNil) (gName 2)) (tSeq (tFor (iZip K (tCons (tVar 0) (tCons (tVar 1) tNil))) (gTup K 2 (gCons (gName 3) (gCons (gName 4) gNil))) (p4_met K E)) (tRet (tVar 2)))
def t_met (K : PySem.W.Frag) (E : XK) : TS :=
  tSeq (tDrop (tCall (sp_looked K) [] E (tCons (tVar 0) tNil))) (tSeq (tDrop (tCall (sp_looked K) [] E (tCons (tVar 1) tNil))) (tSeq (tIfS (tTest (tOp (rNeD K) (tCall (sp_shape K) [] E0 (tCons (tVar 0) tNil)) (tCall (sp_shape K) [] E0 (tCons (tVar 1) tNil)))) (tRaise E (He.ga K "Unlike")) tNext) (p5_met K E)))
abbrev n_met : List Str := ["ones", "others", "made", "one", "other", "knots", "place", "figure", "twin"]

theorem len_met (h : sp_met K vs H Q E) : vs.length = (["ones", "others"] : List Str).length := by
  obtain ⟨_, _, _, _, _, _, rfl, _⟩ := h
  rfl
theorem metK3 {R S : Rc} (i : Nat) {r s : Rw} (hr : R[i]? = some r) (hs : S[i]? = some s) : metF (R.drop i) (S.drop i) = match metK r.2.2 s.2.2 with | none => none | some k => (metF (R.drop (i + 1)) (S.drop (i + 1))).map ((r.1, r.2.1, k) :: ·) := by
  obtain ⟨h1, e1⟩ := List.getElem?_eq_some_iff.mp hr
  obtain ⟨h2, e2⟩ := List.getElem?_eq_some_iff.mp hs
  rw [List.drop_eq_getElem_cons h1, List.drop_eq_getElem_cons h2, e1, e2] <;> rfl
theorem pure_met (K : PySem.W.Frag) (vs : List V) (H : Hp) (Q : VK) (E : XK) (h : sp_met K vs H Q E) : t_met K E { nx := fun _ H' => Q .non H', rt := Q } (start n_met vs) H := by
  obtain ⟨p, r, R, S, P, P', rfl, dR, dS, f3, g3, hl, hl2, q, qe⟩ := h
  unfold metB at q qe
  unfold t_met
  walk_at "go"
  refine ⟨p, R, P, rfl, dR, hl, fun ov f1 H1 el s1 _ _ => ?_, fun x H1 el s1 => qe x H1 (by rw [el]) s1⟩
  rw [el] at q qe
  dsimp only at q qe
  walk_at "go"
  refine ⟨r, S, P', rfl, dS.same s1, hl2, fun ov2 f2 H2 el2 s2 _ _ => ?_, fun x H2 el2 s2 => qe x H2 (by rw [el2]) (s1.trans s2)⟩
  rw [el2] at q qe
  dsimp only at q qe
  have s02 := s1.trans s2
  walk_at "go"
  refine ⟨p, R, P, rfl, dR.same s02, hl, fun p3 H3 w3 s3 h3 d3 => ?_⟩
  walk_at "go"
  refine ⟨r, S, P', rfl, (dS.same s02).same s3, hl2, fun p4 H4 w4 s4 h4 d4 => ?_⟩
  walk_at "go"
  have s04 := (s02.trans s3).trans s4
  refine ⟨_, _, .lst (SqL.of (s4 _ _ h3)) (d3.move fun a xs ha => s4 _ _ ha).dp, .lst (SqL.of h4) d4.dp, sh_shaped _, sh_shaped _, ?_⟩
  rw [show PyData.eqv (.list ((shR R).map shD)) (.list ((shR S).map shD)) = decide (shR R = shR S) from shD_eqv _ _]
  walk_at "go"
  refine g_iteN (fun hne => ?_) (fun heq => ?_)
  · rw [if_pos hne] at qe
    walk_at "go"
    exact qe "Unlike" H4 rfl s04
  rw [if_neg (fun z => z heq)] at q qe
  walk_at "nx"
  unfold p5_met
  walk_at "go"
  intro f hf
  have s5 : Same H4 (upd H4 f (.lst [])) := same_new hf
  have s05 := s04.trans s5
  have fH := s04.free hf
  walk_at "go"
  refine g_forZ ?_
  walk_at "go"
  obtain ⟨xs, hp, _, dp⟩ := dR
  obtain ⟨ys, hr, _, dr⟩ := dS
  have hlen : R.length = S.length := by
    have := congrArg List.length heq
    unfold shR at this
    rw [List.length_map, List.length_map] at this
    exact this
  refine ⟨p, r, xs, ys, rfl, SqL.of (s05 _ _ hp), SqL.of (s05 _ _ hr), RZ.for_zipL (xs := xs) (ys := ys) (by rw [dp.len, dr.len, hlen]) (fun i σ H' => ∃ (w3 w4 w5 w6 w7 w8 : Option V) (vs : List V) (Td : Rc), σ = [some (.ref p), some (.ref r), some (.ref f), w3, w4, w5, w6, w7, w8] ∧ Same H H' ∧ H' f = some (.lst vs) ∧ RcAll H' (fun a => H a = none ∧ a ≠ f) vs Td ∧ Td.length = i ∧ metF R S = (metF (R.drop i) (S.drop i)).map (Td ++ ·)) ⟨_, _, _, _, _, _, [], [], rfl, s05, upd_same, .nil, rfl, ?_⟩ ?_ ?_ ?_⟩
  · rw [List.drop_zero, List.drop_zero]
    cases metF R S <;> rfl
  · rintro i σ H6 ⟨w3, w4, w5, w6, w7, w8, vs, Td, rfl, s6, _⟩
    exact ⟨SqL.of (s6 _ _ hp), SqL.of (s6 _ _ hr)⟩
  · rintro i x y T σ H6 ex ey ⟨w3, w4, w5, w6, w7, w8, vs, Td, rfl, s6, h6, d6, lt, em⟩ hT
    obtain ⟨w, t, k, eR, rfl, ht, hk, _⟩ := dp.vref ex
    obtain ⟨w', t', k', eS, rfl, ht', hk', _⟩ := dr.vref ey
    obtain ⟨a, b, c, ek⟩ := three (f3 w (List.mem_of_getElem? eR))
    obtain ⟨a', b', c', ek'⟩ := three (g3 w' (List.mem_of_getElem? eS))
    rw [metK3 i eR eS, ek, ek'] at em
    rw [ek] at hk
    rw [ek'] at hk'
    refine g_two ?_
    have s7 : Same H6 (upd H6 T (.tup [.ref t, .ref t'])) := same_new hT
    obtain ⟨H7, e7⟩ : ∃ H7, H7 = upd H6 T (.tup [.ref t, .ref t']) := ⟨_, rfl⟩
    rw [← e7] at s7 ⊢
    clear e7
    have s07 := s6.trans s7
    have ht := s07 _ _ ht
    have ht' := s07 _ _ ht'
    have hk := s07 _ _ hk
    have hk' := s07 _ _ hk'
    have h7 := s7 _ _ h6
    have d7 := d6.same s7
    walk_at "go"
    unfold p4_met
    walk_at "go"
    intro n hn
    have nnf : n ≠ f := Ne.symm (ne_of_none h7 hn)
    have nH : H n = none := s07.free hn
    walk_at "go"
    refine g_forR1 ?_
    walk_at "go"
    refine rng1_of (by decide) (by decide) ?_
    have turn : ∀ (u u' : Option Int) (j : Int) (acc : List (Option Int)) (Hx : Hp) (w6 w7 w8 : Option V) (nxt bk : L2.St → Hp → Prop) (rt : VK), acc.length ≤ 2 → Same H7 Hx → Hx n = some (.lst (acc.map oV)) → atI ([a, b, c].map oV) j = some (oV u) → atI ([a', b', c'].map oV) j = some (oV u') →
        (∀ z, mergeF u u' = some z → ∀ w7 w8 Hy, Same H7 Hy → Hy n = some (.lst ((acc ++ [z]).map oV)) → nxt [some (.ref p), some (.ref r), some (.ref f), some (.ref t), some (.ref t'), some (.ref n), some (.int j), w7, w8] Hy) → (mergeF u u' = none → E (.ref (He.ga K "Parted")) none Hx) →
        gName 6 (.int j) [some (.ref p), some (.ref r), some (.ref f), some (.ref t), some (.ref t'), some (.ref n), w6, w7, w8] Hx fun σ2 H2 => p2_met K E { nx := nxt, rt := rt, bk := bk, ct := nxt } σ2 H2 := by
      intro u u' j acc Hx w6 w7 w8 nxt bk rt la sx hx e1 e2 hy he
      have ht := sx _ _ ht
      have ht' := sx _ _ ht'
      have hk := sx _ _ hk
      have hk' := sx _ _ hk'
      walk_at "go"
      unfold p2_met
      walk_at "go"
      refine g_ixT (SqT.of ht) (show atI (rwV w k) 2 = some (.ref k) from rfl) ?_
      walk_at "go"
      refine g_ixL (SqL.of hk) e1 ?_
      walk_at "go"
      refine g_ixT (SqT.of ht') (show atI (rwV w' k') 2 = some (.ref k') from rfl) ?_
      walk_at "go"
      refine g_ixL (SqL.of hk') e2 ?_
      walk_at "go"
      have last : ∀ (z : Option Int) (D : Ends), mergeF u u' = some z → D.nx = nxt → p0_met K E D [some (.ref p), some (.ref r), some (.ref f), some (.ref t), some (.ref t'), some (.ref n), some (.int j), some (oV z), some (oV u')] Hx := by
        intro z D em hD
        unfold p0_met
        walk_at "go"
        refine ⟨ty_list (SqL.of hx), ?_⟩
        walk_at "go"
        refine g_append hx (sz_lt (by rw [List.length_map]; omega)) ?_
        rw [hD]
        refine hy z em _ _ _ (same_mut sx hn) ?_
        rw [upd_same, List.map_append] <;> rfl
      cases u with
      | none =>
        walk_at "go"
        unfold p1_met
        cases u' with
        | none =>
          walk_at "go"
          exact last none _ rfl rfl
        | some y =>
          walk_at "go"
          refine dec_NT rfl ?_
          walk_at "go"
          exact last (some y) _ rfl rfl
      | some x =>
        walk_at "go"
        unfold p1_met
        cases u' with
        | none =>
          walk_at "go"
          exact last (some x) _ rfl rfl
        | some y =>
          walk_at "go"
          refine g_iteN (fun h => ?_) (fun h => ?_)
          · walk_at "go"
            exact he (if_neg h)
          · walk_at "go"
            exact last (some x) _ (if_pos h) rfl
    have e3 : metK [a, b, c] [a', b', c'] = match mergeF a a' with | none => none | some z1 => (match mergeF b b' with | none => none | some z2 => (match mergeF c c' with | none => none | some z3 => some [z3]).map (z2 :: ·)).map (z1 :: ·) := by
      show (match mergeF a a' with | none => none | some z1 => (match mergeF b b' with | none => none | some z2 => (match mergeF c c' with | none => none | some z3 => (some []).map (z3 :: ·)).map (z2 :: ·)).map (z1 :: ·)) = _
      cases mergeF a a' with
      | none => rfl
      | some z1 =>
        cases mergeF b b' with
        | none => rfl
        | some z2 =>
          cases mergeF c c' with
          | none => rfl
          | some z3 => rfl
    rw [e3] at em
    have s7n : Same H7 (upd H7 n (.lst [])) := same_new hn
    refine turn a a' 0 [] _ _ _ _ _ _ _ (by decide) s7n upd_same rfl rfl (fun z1 ez1 w7 w8 Hy1 sy1 hy1 => ?_) (fun z => qe "Parted" _ ?_ (s07.trans s7n))
    rw [ez1] at em
    dsimp only at em
    refine turn b b' 1 [z1] _ _ _ _ _ _ _ (by show 1 ≤ 2; decide) sy1 hy1 rfl rfl (fun z2 ez2 w7 w8 Hy2 sy2 hy2 => ?_) (fun z => qe "Parted" _ ?_ (s07.trans sy1))
    rw [ez2] at em
    dsimp only at em
    refine turn c c' 2 [z1, z2] _ _ _ _ _ _ _ (by show 2 ≤ 2; decide) sy2 hy2 rfl rfl (fun z3 ez3 w7 w8 Hy3 sy3 hy3 => ?_) (fun z => qe "Parted" _ ?_ (s07.trans sy2))
    rw [ez3] at em
    dsimp only [Option.map_some] at em
    · show p3_met K E _ _ _
      unfold p3_met
      walk_at "go"
      refine ⟨ty_list (SqL.of (sy3 _ _ h7)), ?_⟩
      walk_at "go"
      refine g_ixT (SqT.of (sy3 _ _ ht)) (show atI (rwV w k) 0 = some (.int w.1) from rfl) ?_
      walk_at "go"
      refine g_ixT (SqT.of (sy3 _ _ ht)) (show atI (rwV w k) 1 = some (oV w.2.1) from rfl) ?_
      walk_at "go"
      intro t3 ht3
      walk_at "go"
      have s8 : Same Hy3 (upd Hy3 t3 (.tup [.int w.1, oV w.2.1, .ref n])) := same_new ht3
      have hvl := d6.len
      have hRi : i < R.length := (List.getElem?_eq_some_iff.mp eR).1
      have h8 := s8 _ _ (sy3 _ _ h7)
      refine g_append h8 (sz_lt (by omega)) ?_
      walk_at "go"
      refine ⟨_, _, _, _, _, _, vs ++ [.ref t3], Td ++ [(w.1, w.2.1, [z1, z2, z3])], rfl, same_mut ((s07.trans sy3).trans s8) fH, upd_same, ?_, by rw [List.length_append, List.length_singleton, lt], ?_⟩
      · exact ((((d7.same sy3).same s8).snoc (r := (w.1, w.2.1, [z1, z2, z3])) (t := t3) (k := n) upd_same (s8 _ _ hy3) ⟨nH, nnf⟩).upd h8 fun a h => h.2)
      · rw [em]
        cases metF (R.drop (i + 1)) (S.drop (i + 1)) with
        | none => rfl
        | some L =>
          show some (Td ++ _ :: L) = some ((Td ++ [_]) ++ L)
          rw [List.append_assoc] <;> rfl
    · rw [z] at em; rw [em] <;> rfl
    · rw [z] at em; rw [em] <;> rfl
    · rw [z] at em; rw [em] <;> rfl
  · rintro σ H6 ⟨w3, w4, w5, w6, w7, w8, vs, Td, rfl, s6, h6, d6, lt, em⟩
    walk_at "go"
    have e0 : metF (R.drop xs.length) (S.drop xs.length) = some [] := by
      rw [List.drop_of_length_le (by rw [dp.len]; exact Nat.le_refl _)]
      rfl
    rw [e0] at em
    have em : metF R S = some Td := by
      rw [em]
      show some (Td ++ []) = _
      rw [List.append_nil]
    rw [em] at q
    exact q f H6 Td rfl s6 ⟨vs, h6, fH, d6⟩
end
end Cor

/-! ## PuRv -/
/-! ### list(reversed(a list)) -/
namespace Cor
open PySem PySem.Spec PyProof.Rows L2 RT
section
variable {prog : Program} {w : World} {A : Around} {E : Value → Shared → Prop} {s : Shared}
theorem extend_rev {R : Result → Shared → Prop} {it l : Addr} {items : Array Value} (hh : A.handled = none) (hit : s.heap.IsRevIter it l ((items.size : Int) - 1)) (hl : s.heap.IsList l items) (hne : l ≠ it) (hn : items.size ≤ sizeLine)
    (S : Addr) (c₀ : Nat) (hSi : S ≠ it) (hSl : S ≠ l) (hS : s.heap.get? S = some { cls := .type "list", data := .seq #[] c₀ })
    (hR : ∀ h' tk acc' c', (∀ b o, b ≠ S → b ≠ it → s.heap.get? b = some o → h'.get? b = some o) → h'.get? S = some { cls := .type "list", dict := none, data := .seq acc' c', slots := #[] } →
      ItemsOf (fun i v => items[items.size - 1 - i]? = some v) acc' items.size → R (.ok (.ret .none)) { s with heap := h', toks := tk }) :
    wpAny (model prog w) A.in1 (Builtin.List.listExtendWith (.ref S) (.ref it) .none)
      (fun fin s' => match fin with | .done f => R (.ok f) s' | .again c' => c'.quiet = true ∧ codeAny (model prog w) A c' R s') (fun e s' => R (.error e) s') s := by
  have W := (Walks.listRev (prog := prog) (w := w) (A := A.in1) hh it l hne items).toS
  have hSf : S ∉ [it, l] := by simp only [List.mem_cons, List.not_mem_nil, or_false, not_or]; exact ⟨hSi, hSl⟩
  have hT : s.TypeIs (.ref it) "list_reverseiterator" := Heap.IsRevIter.typeIs (s := s) hit
  have h1 : Builtin.List.listSameRef (.ref S) (.ref it) = false := by simp [Builtin.List.listSameRef, hSi]
  unfold Builtin.List.listExtendWith
  refine wpAny_bind (wpAny_typeOf hT ?_)
  rw [if_neg (by rw [h1]; decide)]
  refine wpAny_bind (wpAny_pyIter_revIter hit ?_)
  refine wpAny_bind (wpAny_holding ?_)
  unfold Builtin.List.listLengthHint
  refine wpAny_bind (wpAny_specialOf hT nolen_lri ?_)
  show wpAny _ A.in1 (specialOf (Value.ref it) (Str.ofString "__length_hint__") >>= _) _ _ _
  refine wpAny_bind (wpAny_specialOf hT hint_lri ?_)
  generalize hid : ("list_reverseiterator.__length_hint__" : String) = id0
  wp_delta
  rw [show splitId id0 = some ("list_reverseiterator", "__length_hint__") from by subst hid; decide +kernel]
  subst hid
  refine wpAny_bind (wpAny_isInstance (b := true) hT (by rw [isSubtype_type]; kernel_rfl) ?_)
  refine wpAny_pure ?_
  rw [if_neg (by decide)]
  have e0 : ((items.size : Nat) : Int) - 1 - ((0 : Nat) : Int) = (items.size : Int) - 1 := by omega
  refine wpAny_pure ⟨plainId_quiet F.plain_extend_loop _, codeAny_extend_loopS W hn _ hSf _ items.size 0 _ _ _ rfl (Nat.zero_le _) ⟨Nat.zero_le _, by rw [e0]; exact hit, hl⟩ hS (ItemsOf.nil _) fun s' acc' c' hm hS' hacc => ?_⟩
  rw [Moved.eq_with hm]
  refine hR s'.heap s'.toks acc' c' (fun b o hb hb2 e => hm.heap b o (fun hmem => ?_) e) hS' hacc
  rcases List.mem_cons.mp hmem with e' | hmem
  · exact hb e'
  · exact hb2 (List.mem_singleton.mp hmem)
theorem call_list_rev {it l : Addr} {items : Array Value} {Q : Value → Shared → Prop} (hh : A.handled = none) (hit : s.heap.IsRevIter it l ((items.size : Int) - 1)) (hl : s.heap.IsList l items) (hne : l ≠ it) (hn : items.size ≤ sizeLine)
    (hQ : ∀ h' tk acc' c', (∀ b o, b ≠ it → s.heap.get? b = some o → h'.get? b = some o) → h'.get? s.heap.objs.size = some { cls := .type "list", dict := none, data := .seq acc' c', slots := #[] } →
      ItemsOf (fun i v => items[items.size - 1 - i]? = some v) acc' items.size → Q (.ref s.heap.objs.size) { s with heap := h', toks := tk }) :
    wpAny (model prog w) A (call (.type "list") [.ref it]) Q E s := by
  obtain ⟨oi, hoi, _⟩ := id hit
  obtain ⟨ol, hol, _⟩ := id hl
  have hSi : s.heap.objs.size ≠ it := Nat.ne_of_gt (Heap.lt_size hoi)
  have hSl : s.heap.objs.size ≠ l := Nat.ne_of_gt (Heap.lt_size hol)
  refine callType_codes (Q₁ := fun obj s₁ => obj = .ref s.heap.objs.size ∧ s₁ = { s with heap := s.heap.push { cls := .type "list", data := .seq #[] } }) F.called_list (F.typeCall_list_1 _) F.entry_list_init
    (code_list_new _ ⟨rfl, rfl⟩) fun obj s₁ h₁ => ?_
  obtain ⟨rfl, rfl⟩ := h₁
  have hS : (s.heap.push { cls := .type "list", data := .seq #[] }).get? s.heap.objs.size = some { cls := .type "list", data := .seq #[] } := Heap.get?_push_size _ rfl
  refine ⟨⟨_, hS, rfl⟩, F.args_list_init_2 _ _, ?_⟩
  show wpAny _ A.in1.in1 (do let old ← Builtin.List.listItems (.ref s.heap.objs.size); Builtin.List.listUpdate (.ref s.heap.objs.size) (fun _ => #[]); letGo old.toList.reverse; Builtin.List.listExtendWith (.ref s.heap.objs.size) (.ref it) .none) _ _ _
  refine wpAny_bind ?_
  unfold Builtin.List.listItems
  refine wpAny_bind (wpAny_seqItems hS rfl (wpAny_pure ?_))
  show wpAny _ _ (updateSeq s.heap.objs.size (fun _ => #[]) >>= fun _ => letGo (#[] : Array Value).toList.reverse >>= fun _ => Builtin.List.listExtendWith (.ref s.heap.objs.size) (.ref it) .none) _ _ _
  refine wpAny_bind (wpAny_updateSeq hS rfl ?_)
  have hS₂ := Heap.get?_update_self (Obj.mapSeq (fun _ => (#[] : Array Value))) hS rfl
  have oth : ∀ b o, b ≠ s.heap.objs.size → s.heap.get? b = some o → ((s.heap.push { cls := .type "list", data := .seq #[] }).update s.heap.objs.size (Obj.mapSeq (fun _ => (#[] : Array Value)))).get? b = some o :=
    fun b o hb e => (Heap.get?_update_other _ _ (Ne.symm hb)).trans (Heap.get?_push_of_some _ e)
  refine wpAny_bind (wpAny_letGo ?_)
  have hit2 := hit.at (h' := (s.heap.push { cls := .type "list", data := .seq #[] }).update s.heap.objs.size (Obj.mapSeq (fun _ => (#[] : Array Value)))) fun o e => oth it o (Ne.symm hSi) e
  obtain ⟨o1, q1, q2, q3⟩ := hl
  have hl2 : ((s.heap.push { cls := .type "list", data := .seq #[] }).update s.heap.objs.size (Obj.mapSeq (fun _ => (#[] : Array Value)))).IsList l items := ⟨o1, oth l o1 (Ne.symm hSl) q1, q2, q3⟩
  refine extend_rev (A := A.in1) hh hit2 hl2 hne hn _ _ hSi hSl hS₂ fun h' tk acc' c' hk hS' hacc => ?_
  exact ⟨rfl, hQ h' tk acc' c' (fun b o hb e => hk b o (Nat.ne_of_lt (Heap.lt_size e)) hb (oth b o (Nat.ne_of_lt (Heap.lt_size e)) e)) hS' hacc⟩
end
/-- list(reversed(x)), x a list: a new list -/
def tLstRev (K : PySem.W.Frag) (te : TE) : TE := fun σ H Q => te σ H fun v H1 => ∃ (a : Addr) (xs : List V), v = .ref a ∧ SqL K H1 a xs ∧ ∀ q, H1 q = none → Q (.ref q) (upd H1 q (.lst xs.reverse))
section
variable {X : Cx}
theorem pe_lstrev {e : Expr} {te : TE} {p p2 pos pos2 : Pos} (hc : X.calm = true) (hg : Gl X "list") (hm : X.mg "list" = none) (hg2 : Gl X "reversed") (hm2 : X.mg "reversed" = none) (he : PE X e te)
    (hs : starEach [e] X.env = (false, eval e X.env) :: starEach [] X.env := by rfl)
    (hs2 : starEach [.Call (.Name "reversed" p2) [e] [] pos2] X.env = (false, eval (.Call (.Name "reversed" p2) [e] [] pos2) X.env) :: starEach [] X.env := by rfl) :
    PE X (.Call (.Name "list" p) [.Call (.Name "reversed" p2) [e] [] pos2] [] pos) (tLstRev X.K te) := by
  refine ⟨fun pins s σ H Q I h => ?_⟩
  refine Call_ (ld_blt I hg hm boot_list (PyProof.Rows.callWith_type1 (args_cons (Call_ (ld_blt I hg2 hm2 PyProof.Rows.boot_reversed (PyProof.Rows.callWith_type1 (args_cons (thn (he.run pins s σ H _ I h) fun u s1 ⟨v, H1, I1, r1, q1⟩ => args_nil ?_) hs) hs rfl))) hs2) hs2 rfl))
  obtain ⟨a, xs, ev, hq, q⟩ := q1
  subst ev
  obtain rfl : u = Value.ref a := r1
  obtain ⟨its, rv, p', hz⟩ := I1.list hq
  refine call_reversed_list p'.isList (args_nil ?_)
  have hl := p'.isList
  obtain ⟨ol, hol, _⟩ := id hl
  have hne : a ≠ s1.heap.objs.size := Nat.ne_of_lt (Heap.lt_size hol)
  have hn : its.toArray.size ≤ sizeLine := by rw [List.size_toArray, ← rv.length]; exact hz
  refine call_list_rev (s := { s1 with heap := s1.heap.push (revObj a ((its.toArray.size : Int) - 1)) }) (I1.ok.hd hc) ⟨_, Heap.get?_push_size _ rfl, rfl, rfl⟩ (hl.push _) hne hn fun h' tk acc c' hk hS' hi => ?_
  have hsz : s1.heap.objs.size ≤ (s1.heap.push (revObj a ((its.toArray.size : Int) - 1))).objs.size := by
    show _ ≤ (s1.heap.objs.push _).size
    rw [Array.size_push]
    exact Nat.le_succ _
  refine ⟨.ref _, upd H1 _ (.lst xs.reverse), I1.laid (t' := tk) (fun b o e => hk b o (Nat.ne_of_lt (Heap.lt_size e)) (Heap.get?_push_of_some _ e)) hsz (show ObjOk X.prog X.w _ _ _ (.lst xs.reverse) from ⟨by rw [List.length_reverse]; exact hz, acc.toList, c', vals_rev rv hi, ?_⟩), rfl, q _ (I1.hok.fresh hsz)⟩
  rw [Array.toArray_toList]
  exact hS'
end
end Cor

/-! ## PuT0 -/
/-! ### telling: a wrong record, or an empty one -/
namespace Cor
open PySem PySem.Spec PyProof.Rows L2
section
variable {K : PySem.W.Frag} {vs : List V} {H : Hp} {Q : VK} {E : XK}
def sp_ways (K : PySem.W.Frag) : Sp := fun _ _ _ _ => False
/-- ways: slots knots, found, figure, longer, number, last -/
def p0_ways (K : PySem.W.Frag) (E : XK) : TS :=
  tIfS (tTest (tOp rIsN (tVar 2) (tC .non))) (tDrop (tBM K "list" rExtend (tVar 3) (tCons (tLc (iRng1 (tCons (tC (.int 10)) tNil)) (gName 5) tYes (tOp rAddI (tOp rMulI (tVar 4) (tC (.int 10))) (tVar 5)) [5]) tNil))) (tDrop (tBM K "list" rAppend (tVar 3) (tCons (tOp rAddI (tOp rMulI (tVar 4) (tC (.int 10))) (tVar 2)) tNil)))
def p1_ways (K : PySem.W.Frag) (E : XK) : TS :=
  tSeq (tAsg (tLst tNil) (gName 3)) (tSeq (tFor (iList K (tVar 1)) (gName 4) (p0_ways K E)) (tAsg (tVar 3) (gName 1)))
def t_ways (K : PySem.W.Frag) (E : XK) : TS :=
  tSeq (tAsg (tLst (tCons (tC (.int 0)) tNil)) (gName 1)) (tSeq (tFor (iList K (tVar 0)) (gName 2) (p1_ways K E)) (tRet (tVar 1)))
abbrev n_ways : List Str := ["knots", "found", "figure", "longer", "number", "last"]

theorem len_ways (h : sp_ways K vs H Q E) : vs.length = (["knots"] : List Str).length := h.elim
theorem pure_ways (K : PySem.W.Frag) (vs : List V) (H : Hp) (Q : VK) (E : XK) (h : sp_ways K vs H Q E) : t_ways K E { nx := fun _ H' => Q .non H', rt := Q } (start n_ways vs) H := h.elim
def sp_sums (K : PySem.W.Frag) : Sp := fun _ _ _ _ => False
/-- sums: slots many, found, row, seen, number, other -/
def p0_sums (K : PySem.W.Frag) (E : XK) : TS :=
  tIfS (tTest (tOp rLeI (tOp rAddI (tVar 4) (tVar 5)) (tC (.int 999)))) (sDPut (tVar 3) (tOp rAddI (tVar 4) (tVar 5)) (tC (.bl true))) tNext
def p1_sums (K : PySem.W.Frag) (E : XK) : TS :=
  tFor (iList K (tVar 2)) (gName 5) (p0_sums K E)
def p2_sums (K : PySem.W.Frag) (E : XK) : TS :=
  tAsg (tCB (rSortedI K) (tCons (tCB rListD (tCons (tVar 3) tNil)) tNil)) (gName 1)
def p3_sums (K : PySem.W.Frag) (E : XK) : TS :=
  tSeq (tAsg tDNewK (gName 3)) (tSeq (tFor (iList K (tVar 1)) (gName 4) (p1_sums K E)) (p2_sums K E))
def t_sums (K : PySem.W.Frag) (E : XK) : TS :=
  tSeq (tAsg (tLst (tCons (tC (.int 0)) tNil)) (gName 1)) (tSeq (tFor (iList K (tVar 0)) (gName 2) (p3_sums K E)) (tRet (tVar 1)))
abbrev n_sums : List Str := ["many", "found", "row", "seen", "number", "other"]

theorem len_sums (h : sp_sums K vs H Q E) : vs.length = (["many"] : List Str).length := h.elim
theorem pure_sums (K : PySem.W.Frag) (vs : List V) (H : Hp) (Q : VK) (E : XK) (h : sp_sums K vs H Q E) : t_sums K E { nx := fun _ H' => Q .non H', rt := Q } (start n_sums vs) H := h.elim
def sp_marked (K : PySem.W.Frag) : Sp := fun _ _ _ _ => False
/-- marked: slots row, found, number -/
def p0_marked (K : PySem.W.Frag) (E : XK) : TS :=
  sDPut (tVar 1) (tVar 2) (tC (.bl true))
def t_marked (K : PySem.W.Frag) (E : XK) : TS :=
  tSeq (tAsg tDNewK (gName 1)) (tSeq (tFor (iList K (tVar 0)) (gName 2) (p0_marked K E)) (tRet (tVar 1)))
abbrev n_marked : List Str := ["row", "found", "number"]

theorem len_marked (h : sp_marked K vs H Q E) : vs.length = (["row"] : List Str).length := h.elim
theorem pure_marked (K : PySem.W.Frag) (vs : List V) (H : Hp) (Q : VK) (E : XK) (h : sp_marked K vs H Q E) : t_marked K E { nx := fun _ H' => Q .non H', rt := Q } (start n_marked vs) H := h.elim
def sp_meets (K : PySem.W.Frag) : Sp := fun _ _ _ _ => False
/-- meets: slots number, others, whole, other -/
def p0_meets (K : PySem.W.Frag) (E : XK) : TS :=
  tIfS (tB (tDIn (tOp rAddI (tVar 0) (tVar 3)) (tVar 2))) (tRet (tC (.bl true))) tNext
def t_meets (K : PySem.W.Frag) (E : XK) : TS :=
  tSeq (tFor (iList K (tVar 1)) (gName 3) (p0_meets K E)) (tRet (tC (.bl false)))
abbrev n_meets : List Str := ["number", "others", "whole", "other"]

theorem len_meets (h : sp_meets K vs H Q E) : vs.length = (["number", "others", "whole"] : List Str).length := h.elim
theorem pure_meets (K : PySem.W.Frag) (vs : List V) (H : Hp) (Q : VK) (E : XK) (h : sp_meets K vs H Q E) : t_meets K E { nx := fun _ H' => Q .non H', rt := Q } (start n_meets vs) H := h.elim
def sp_without (K : PySem.W.Frag) : Sp := fun _ _ _ _ => False
/-- without: slots rows, ahead, row, found, behind, back, place -/
def p0_without (K : PySem.W.Frag) (E : XK) : TS :=
  tDrop (tBM K "list" rAppend (tVar 1) (tCons (tCall (sp_sums K) [] E0 (tCons (tLst (tCons (tOp (rIxL K) (tVar 1) (tUn rNegI (tC (.int 1)))) (tCons (tVar 2) tNil))) tNil)) tNil))
def p1_without (K : PySem.W.Frag) (E : XK) : TS :=
  tSeq (tAsg (tOp rSubI (tOp rSubI (tCB (rLenL K) (tCons (tVar 0) tNil)) (tC (.int 1))) (tVar 5)) (gName 6)) (tSeq (tDrop (tBM K "list" rAppend (tVar 3) (tCons (tCall (sp_sums K) [] E0 (tCons (tLst (tCons (tOp (rIxL K) (tVar 1) (tVar 6)) (tCons (tVar 4) tNil))) tNil)) tNil))) (tAsg (tCall (sp_sums K) [] E0 (tCons (tLst (tCons (tVar 4) (tCons (tOp (rIxL K) (tVar 0) (tVar 6)) tNil))) tNil)) (gName 4)))
def p2_without (K : PySem.W.Frag) (E : XK) : TS :=
  tSeq (tAsg (tLst tNil) (gName 3)) (tSeq (tAsg (tLst (tCons (tC (.int 0)) tNil)) (gName 4)) (tSeq (tFor (iRng1 (tCons (tCB (rLenL K) (tCons (tVar 0) tNil)) tNil)) (gName 5) (p1_without K E)) (tRet (tLstRev K (tVar 3)))))
def t_without (K : PySem.W.Frag) (E : XK) : TS :=
  tSeq (tAsg (tLst (tCons (tLst (tCons (tC (.int 0)) tNil)) tNil)) (gName 1)) (tSeq (tFor (iList K (tVar 0)) (gName 2) (p0_without K E)) (p2_without K E))
abbrev n_without : List Str := ["rows", "ahead", "row", "found", "behind", "back", "place"]

theorem len_without (h : sp_without K vs H Q E) : vs.length = (["rows"] : List Str).length := h.elim
theorem pure_without (K : PySem.W.Frag) (vs : List V) (H : Hp) (Q : VK) (E : XK) (h : sp_without K vs H Q E) : t_without K E { nx := fun _ H' => Q .non H', rt := Q } (start n_without vs) H := h.elim
def sp_fixed (K : PySem.W.Frag) : Sp := fun _ _ _ _ => False
/-- fixed: slots record, place, number, made, row -/
def t_fixed (K : PySem.W.Frag) (E : XK) : TS :=
  tSeq (tAsg (tCB (rListL K) (tCons (tVar 0) tNil)) (gName 3)) (tSeq (tAsg (tOp (rIxL K) (tVar 3) (tVar 1)) (gName 4)) (tSeq (tAsg (tTup (tCons (tOp (rIxT K) (tVar 4) (tC (.int 0))) (tCons (tOp (rIxT K) (tVar 4) (tC (.int 1))) (tCons (tCall (sp_figures K) [] E0 (tCons (tVar 2) tNil)) tNil)))) (gSub (tVar 3) (tVar 1) rSetL)) (tRet (tVar 3))))
abbrev n_fixed : List Str := ["record", "place", "number", "made", "row"]

theorem len_fixed (h : sp_fixed K vs H Q E) : vs.length = (["record", "place", "number"] : List Str).length := h.elim
theorem pure_fixed (K : PySem.W.Frag) (vs : List V) (H : Hp) (Q : VK) (E : XK) (h : sp_fixed K vs H Q E) : t_fixed K E { nx := fun _ H' => Q .non H', rt := Q } (start n_fixed vs) H := h.elim
def sp_hanging (K : PySem.W.Frag) : Sp := fun vs H Q _ => ∃ p, vs = [.ref p] ∧ SqL K H p [] ∧ ∀ q H', Same H H' → H q = none → H' q = some (.lst []) → Q (.ref q) H'
/-- hanging: slots overs, found, over, place -/
def p0_hanging (K : PySem.W.Frag) (E : XK) : TS :=
  tIfS (tTest (tOp rNotN (tOp (rIxL K) (tVar 0) (tVar 3)) (tC .non))) (tDrop (tBM K "list" rAppend (tOp (rIxL K) (tVar 1) (tOp (rIxL K) (tVar 0) (tVar 3))) (tCons (tVar 3) tNil))) tNext
def t_hanging (K : PySem.W.Frag) (E : XK) : TS :=
  tSeq (tAsg (tLc (iList K (tVar 0)) (gName 2) tYes (tLst tNil) [2]) (gName 1)) (tSeq (tFor (iRng1 (tCons (tCB (rLenL K) (tCons (tVar 0) tNil)) tNil)) (gName 3) (p0_hanging K E)) (tRet (tVar 1)))
abbrev n_hanging : List Str := ["overs", "found", "over", "place"]

theorem len_hanging (h : sp_hanging K vs H Q E) : vs.length = (["overs"] : List Str).length := by
  obtain ⟨_, rfl, _⟩ := h
  rfl
theorem pure_hanging (K : PySem.W.Frag) (vs : List V) (H : Hp) (Q : VK) (E : XK) (h : sp_hanging K vs H Q E) : t_hanging K E { nx := fun _ H' => Q .non H', rt := Q } (start n_hanging vs) H := by
  obtain ⟨p, rfl, hp, q⟩ := h
  unfold t_hanging
  walk_at "go"
  refine g_lcL ?_
  walk_at "go"
  refine lc_go (xs := []) hp fun L hL => ?_
  have s1 : Same H (upd H L (.lst [])) := same_new hL
  refine ⟨s1.seq hp, ?_⟩
  walk_at "go"
  refine g_forR1 ?_
  walk_at "go"
  refine g_lenL (s1.seq hp) ?_
  walk_at "go"
  refine rng1_of (by decide) (by decide) ?_
  show forRng _ _ _ 0 _ _ _
  walk_at "go"
  exact q L _ s1 hL upd_same
def sp_from_below (K : PySem.W.Frag) : Sp := fun vs H Q _ => ∃ p r, vs = [.ref p, .ref r] ∧ SqL K H p [] ∧ ∀ q H', Same H H' → H q = none → H' q = some (.lst []) → Q (.ref q) H'
/-- from_below: slots record, kids, found, row, back, place, knots, total, kid, number -/
def p0_from_below (K : PySem.W.Frag) (E : XK) : TS :=
  tIfS (tTest (tOp rEq (tCB (rLenL K) (tCons (tOp (rIxL K) (tVar 2) (tVar 5)) tNil)) (tC (.int 0)))) (tRaise E (He.ga K "Frayed")) tNext
def p1_from_below (K : PySem.W.Frag) (E : XK) : TS :=
  tSeq (tAsg (tOp rSubI (tOp rSubI (tCB (rLenL K) (tCons (tVar 0) tNil)) (tC (.int 1))) (tVar 4)) (gName 5)) (tSeq (tAsg (tOp (rIxT K) (tOp (rIxL K) (tVar 0) (tVar 5)) (tC (.int 2))) (gName 6)) (tSeq (tIfS (tTest (tOp rEq (tCB (rLenL K) (tCons (tOp (rIxL K) (tVar 1) (tVar 5)) tNil)) (tC (.int 0)))) (tAsg (tCall (sp_ways K) [] E0 (tCons (tVar 6) tNil)) (gSub (tVar 2) (tVar 5) rSetL)) (tSeq (tAsg (tCall (sp_sums K) [] E0 (tCons (tLc (iList K (tOp (rIxL K) (tVar 1) (tVar 5))) (gName 8) tYes (tOp (rIxL K) (tVar 2) (tVar 8)) [8]) tNil)) (gName 7)) (tAsg (tLc (iList K (tVar 7)) (gName 9) (tB (tCall (sp_fits K) [] E0 (tCons (tVar 9) (tCons (tVar 6) tNil)))) (tVar 9) [9]) (gSub (tVar 2) (tVar 5) rSetL)))) (p0_from_below K E)))
def t_from_below (K : PySem.W.Frag) (E : XK) : TS :=
  tSeq (tAsg (tLc (iList K (tVar 0)) (gName 3) tYes (tLst tNil) [3]) (gName 2)) (tSeq (tFor (iRng1 (tCons (tCB (rLenL K) (tCons (tVar 0) tNil)) tNil)) (gName 4) (p1_from_below K E)) (tRet (tVar 2)))
abbrev n_from_below : List Str := ["record", "kids", "found", "row", "back", "place", "knots", "total", "kid", "number"]

theorem len_from_below (h : sp_from_below K vs H Q E) : vs.length = (["record", "kids"] : List Str).length := by
  obtain ⟨_, _, rfl, _⟩ := h
  rfl
theorem pure_from_below (K : PySem.W.Frag) (vs : List V) (H : Hp) (Q : VK) (E : XK) (h : sp_from_below K vs H Q E) : t_from_below K E { nx := fun _ H' => Q .non H', rt := Q } (start n_from_below vs) H := by
  obtain ⟨p, r, rfl, hp, q⟩ := h
  unfold t_from_below
  walk_at "go"
  refine g_lcL ?_
  walk_at "go"
  refine lc_go (xs := []) hp fun L hL => ?_
  have s1 : Same H (upd H L (.lst [])) := same_new hL
  refine ⟨s1.seq hp, ?_⟩
  walk_at "go"
  refine g_forR1 ?_
  walk_at "go"
  refine g_lenL (s1.seq hp) ?_
  walk_at "go"
  refine rng1_of (by decide) (by decide) ?_
  show forRng _ _ _ 0 _ _ _
  walk_at "go"
  exact q L _ s1 hL upd_same
def sp_beside (K : PySem.W.Frag) : Sp := fun vs H Q _ => ∃ p r, vs = [.ref p, .ref r] ∧ SqL K H p [] ∧ SqL K H r [] ∧ ∀ q H', Same H H' → H q = none → H' q = some (.lst []) → Q (.ref q) H'
/-- beside: slots kids, below, found, row, those, parts, kid, part -/
def p0_beside (K : PySem.W.Frag) (E : XK) : TS :=
  tAsg (tVar 7) (gSub (tVar 2) (tVar 6) rSetL)
def p1_beside (K : PySem.W.Frag) (E : XK) : TS :=
  tSeq (tAsg (tCall (sp_without K) [] E0 (tCons (tLc (iList K (tVar 4)) (gName 6) tYes (tOp (rIxL K) (tVar 1) (tVar 6)) [6]) tNil)) (gName 5)) (tFor (iZip K (tCons (tVar 4) (tCons (tVar 5) tNil))) (gTup K 2 (gCons (gName 6) (gCons (gName 7) gNil))) (p0_beside K E))
def t_beside (K : PySem.W.Frag) (E : XK) : TS :=
  tSeq (tAsg (tLc (iList K (tVar 1)) (gName 3) tYes (tLst (tCons (tC (.int 0)) tNil)) [3]) (gName 2)) (tSeq (tFor (iList K (tVar 0)) (gName 4) (p1_beside K E)) (tRet (tVar 2)))
abbrev n_beside : List Str := ["kids", "below", "found", "row", "those", "parts", "kid", "part"]

theorem len_beside (h : sp_beside K vs H Q E) : vs.length = (["kids", "below"] : List Str).length := by
  obtain ⟨_, _, rfl, _⟩ := h
  rfl
theorem pure_beside (K : PySem.W.Frag) (vs : List V) (H : Hp) (Q : VK) (E : XK) (h : sp_beside K vs H Q E) : t_beside K E { nx := fun _ H' => Q .non H', rt := Q } (start n_beside vs) H := by
  obtain ⟨p, r, rfl, hp, hr, q⟩ := h
  unfold t_beside
  walk_at "go"
  refine g_lcL ?_
  walk_at "go"
  refine lc_go (xs := []) hr fun L hL => ?_
  have s1 : Same H (upd H L (.lst [])) := same_new hL
  refine ⟨s1.seq hr, ?_⟩
  walk_at "go"
  refine g_forL ?_
  walk_at "go"
  refine for_go (xs := []) ?_
  refine ⟨s1.seq hp, ?_⟩
  walk_at "go"
  exact q L _ s1 hL upd_same
/-- a record that is refused, or none -/
def BadOr (K : PySem.W.Frag) (p : Addr) (H : Hp) (Q : VK) (E : XK) : Prop := (∃ R P x, RecAt H P p R ∧ R.length ≤ 900 ∧ lookB R = .error x ∧ ∀ H', Same H H' → E (.ref (He.ga K (Str.ofString x))) none H') ∨
  (H p = some (.lst []) ∧ ∀ q H', Same H H' → H q = none → H' q = some (.lst []) → Q (.ref q) H')
def sp_numbers (K : PySem.W.Frag) : Sp := fun vs H Q E => ∃ p, vs = [.ref p] ∧ BadOr K p H Q E
/-- numbers: slots record, overs, kids, below, others, found, place, whole, number -/
def p0_numbers (K : PySem.W.Frag) (E : XK) : TS :=
  tIfS (tTest (tOp rIsN (tOp (rIxL K) (tVar 1) (tVar 6)) (tC .non))) (tDrop (tBM K "list" rAppend (tVar 5) (tCons (tCB (rListL K) (tCons (tOp (rIxL K) (tVar 3) (tVar 6)) tNil)) tNil))) (tSeq (tAsg (tCall (sp_marked K) [] E0 (tCons (tOp (rIxL K) (tVar 5) (tOp (rIxL K) (tVar 1) (tVar 6))) tNil)) (gName 7)) (tDrop (tBM K "list" rAppend (tVar 5) (tCons (tLc (iList K (tOp (rIxL K) (tVar 3) (tVar 6))) (gName 8) (tB (tCall (sp_meets K) [] E0 (tCons (tVar 8) (tCons (tOp (rIxL K) (tVar 4) (tVar 6)) (tCons (tVar 7) tNil))))) (tVar 8) [8]) tNil))))
def t_numbers (K : PySem.W.Frag) (E : XK) : TS :=
  tSeq (tAsg (tCall (sp_looked K) [] E (tCons (tVar 0) tNil)) (gName 1)) (tSeq (tAsg (tCall (sp_hanging K) [] E0 (tCons (tVar 1) tNil)) (gName 2)) (tSeq (tAsg (tCall (sp_from_below K) [] E (tCons (tVar 0) (tCons (tVar 2) tNil))) (gName 3)) (tSeq (tAsg (tCall (sp_beside K) [] E0 (tCons (tVar 2) (tCons (tVar 3) tNil))) (gName 4)) (tSeq (tAsg (tLst tNil) (gName 5)) (tSeq (tFor (iRng1 (tCons (tCB (rLenL K) (tCons (tVar 0) tNil)) tNil)) (gName 6) (p0_numbers K E)) (tRet (tVar 5)))))))
abbrev n_numbers : List Str := ["record", "overs", "kids", "below", "others", "found", "place", "whole", "number"]

theorem len_numbers (h : sp_numbers K vs H Q E) : vs.length = (["record"] : List Str).length := by
  obtain ⟨_, rfl, _⟩ := h
  rfl
theorem rec0 {p : Addr} (h : H p = some (.lst [])) : RecAt H (fun _ => True) p [] := ⟨[], h, trivial, .nil⟩
theorem pure_numbers (K : PySem.W.Frag) (vs : List V) (H : Hp) (Q : VK) (E : XK) (h : sp_numbers K vs H Q E) : t_numbers K E { nx := fun _ H' => Q .non H', rt := Q } (start n_numbers vs) H := by
  obtain ⟨p, rfl, ⟨R, P, x, hR, hl, el, qe⟩ | ⟨hp, q⟩⟩ := h
  · unfold t_numbers
    walk_at "go"
    refine ⟨p, R, P, rfl, hR, hl, fun ov q' H' e => (by rw [el] at e; cases e), fun y H' e s' => ?_⟩
    rw [el] at e
    cases e
    exact qe H' s'
  · unfold t_numbers
    walk_at "go"
    refine ⟨p, [], _, rfl, rec0 hp, by decide, fun ov q1 H1 e s1 _ h1 => ?_, fun y H' e => (by cases e)⟩
    cases e
    walk_at "go"
    refine ⟨q1, rfl, SqL.of h1, fun q2 H2 s2 _ h2 => ?_⟩
    walk_at "go"
    have s02 := s1.trans s2
    refine ⟨p, q2, rfl, SqL.of (s02 _ _ hp), fun q3 H3 s3 _ h3 => ?_⟩
    walk_at "go"
    refine ⟨q2, q3, rfl, SqL.of (s3 _ _ h2), SqL.of h3, fun q4 H4 s4 _ h4 => ?_⟩
    walk_at "go"
    intro f hf
    walk_at "go"
    have s04 := (s02.trans s3).trans s4
    have s5 : Same H4 (upd H4 f (.lst [])) := same_new hf
    refine g_forR1 ?_
    walk_at "go"
    refine g_lenL (SqL.of (s5 _ _ (s04 _ _ hp))) ?_
    walk_at "go"
    refine rng1_of (by decide) (by decide) ?_
    show forRng _ _ _ 0 _ _ _
    walk_at "go"
    exact q f _ (s04.trans s5) (s04.free hf) upd_same
def sp_told (K : PySem.W.Frag) : Sp := fun vs H Q E => ∃ p, vs = [.ref p] ∧ BadOr K p H Q E
/-- told: slots record, found, row, number, place -/
def p0_told (K : PySem.W.Frag) (E : XK) : TS :=
  tDrop (tBM K "list" rAppend (tVar 1) (tCons (tLc (iRng1 (tCons (tC (.int 3)) tNil)) (gName 4) tYes (tSortSet K (tLc (iList K (tVar 2)) (gName 3) tYes (tOp (rIxL K) (tCall (sp_figures K) [] E0 (tCons (tVar 3) tNil)) (tVar 4)) [3])) [4]) tNil))
def t_told (K : PySem.W.Frag) (E : XK) : TS :=
  tSeq (tAsg (tLst tNil) (gName 1)) (tSeq (tFor (iList K (tCall (sp_numbers K) [] E (tCons (tVar 0) tNil))) (gName 2) (p0_told K E)) (tRet (tVar 1)))
abbrev n_told : List Str := ["record", "found", "row", "number", "place"]

theorem len_told (h : sp_told K vs H Q E) : vs.length = (["record"] : List Str).length := by
  obtain ⟨_, rfl, _⟩ := h
  rfl
theorem pure_told (K : PySem.W.Frag) (vs : List V) (H : Hp) (Q : VK) (E : XK) (h : sp_told K vs H Q E) : t_told K E { nx := fun _ H' => Q .non H', rt := Q } (start n_told vs) H := by
  obtain ⟨p, rfl, ⟨R, P, x, hR, hl, el, qe⟩ | ⟨hp, q⟩⟩ := h
  · unfold t_told
    walk_at "go"
    intro f hf
    walk_at "go"
    refine g_forL ?_
    walk_at "go"
    have s1 : Same H (upd H f (.lst [])) := same_new hf
    exact ⟨p, rfl, .inl ⟨R, P, x, hR.same s1, hl, el, fun H' s' => qe H' (s1.trans s')⟩⟩
  · unfold t_told
    walk_at "go"
    intro f hf
    walk_at "go"
    refine g_forL ?_
    walk_at "go"
    have s1 : Same H (upd H f (.lst [])) := same_new hf
    refine ⟨p, rfl, .inr ⟨s1 _ _ hp, fun q1 H1 s2 _ h1 => ?_⟩⟩
    refine for_go (xs := []) ?_
    refine ⟨SqL.of h1, ?_⟩
    walk_at "go"
    exact q f H1 (s1.trans s2) hf (s2 _ _ upd_same)
def sp_first (K : PySem.W.Frag) : Sp := fun vs H Q E => ∃ p, vs = [.ref p] ∧ BadOr K p H Q E
/-- first: slots record, made, found, place, row -/
def p0_first (K : PySem.W.Frag) (E : XK) : TS :=
  tIfS (tTest (tOp rGtI (tCB (rLenL K) (tCons (tOp (rIxL K) (tVar 2) (tVar 3)) tNil)) (tC (.int 1)))) (tSeq (tAsg (tCall (sp_fixed K) [] E0 (tCons (tVar 1) (tCons (tVar 3) (tCons (tOp (rIxL K) (tOp (rIxL K) (tVar 2) (tVar 3)) (tC (.int 0))) tNil)))) (gName 1)) (tAsg (tCall (sp_numbers K) [] E (tCons (tVar 1) tNil)) (gName 2))) tNext
def p1_first (K : PySem.W.Frag) (E : XK) : TS :=
  tRet (tLc (iList K (tVar 2)) (gName 4) tYes (tOp (rIxL K) (tVar 4) (tC (.int 0))) [4])
def t_first (K : PySem.W.Frag) (E : XK) : TS :=
  tSeq (tAsg (tCB (rListL K) (tCons (tVar 0) tNil)) (gName 1)) (tSeq (tAsg (tCall (sp_numbers K) [] E (tCons (tVar 1) tNil)) (gName 2)) (tSeq (tFor (iRng1 (tCons (tCB (rLenL K) (tCons (tVar 0) tNil)) tNil)) (gName 3) (p0_first K E)) (p1_first K E)))
abbrev n_first : List Str := ["record", "made", "found", "place", "row"]

theorem len_first (h : sp_first K vs H Q E) : vs.length = (["record"] : List Str).length := by
  obtain ⟨_, rfl, _⟩ := h
  rfl
theorem pure_first (K : PySem.W.Frag) (vs : List V) (H : Hp) (Q : VK) (E : XK) (h : sp_first K vs H Q E) : t_first K E { nx := fun _ H' => Q .non H', rt := Q } (start n_first vs) H := by
  obtain ⟨p, rfl, ⟨R, P, x, hR, hl, el, qe⟩ | ⟨hp, q⟩⟩ := h
  · unfold t_first
    walk_at "go"
    have hR2 := hR
    obtain ⟨xs, hp, hP, dp⟩ := hR2
    refine g_listL (SqL.of hp) fun m hm => ?_
    walk_at "go"
    have s1 : Same H (upd H m (.lst xs)) := same_new hm
    exact ⟨m, rfl, .inl ⟨R, fun _ => True, x, ⟨xs, upd_same, trivial, (dp.same s1).weak fun _ _ => trivial⟩, hl, el, fun H' s' => qe H' (s1.trans s')⟩⟩
  · unfold t_first
    walk_at "go"
    refine g_listL (SqL.of hp) fun m hm => ?_
    walk_at "go"
    have s1 : Same H (upd H m (.lst [])) := same_new hm
    refine ⟨m, rfl, .inr ⟨upd_same, fun q1 H1 s2 _ h1 => ?_⟩⟩
    have s02 := s1.trans s2
    walk_at "go"
    refine g_forR1 ?_
    walk_at "go"
    refine g_lenL (SqL.of (s02 _ _ hp)) ?_
    walk_at "go"
    refine rng1_of (by decide) (by decide) ?_
    show forRng _ _ _ 0 _ _ _
    walk_at "go"
    unfold p1_first
    walk_at "go"
    refine g_lcL ?_
    walk_at "go"
    refine lc_go (xs := []) (SqL.of h1) fun L hL => ?_
    have s3 : Same H1 (upd H1 L (.lst [])) := same_new hL
    refine ⟨SqL.of (s3 _ _ h1), ?_⟩
    exact q L _ (s02.trans s3) (s02.free hL) upd_same
def sp_filling (K : PySem.W.Frag) : Sp := fun vs H Q E => ∃ p n m, vs = [.ref p, .int n, .int m] ∧ ((∃ R P x, RecAt H P p R ∧ R.length ≤ 900 ∧ lookB R = .error x ∧ ∀ H', Same H H' → E (.ref (He.ga K (Str.ofString x))) none H') ∨
  (H p = some (.lst []) ∧ ∀ H', Same H H' → E (.ref (He.ga K "NoCord")) none H'))
/-- filling: slots record, name, number, found, place -/
def p0_filling (K : PySem.W.Frag) (E : XK) : TS :=
  tRet (tCall (sp_first K) [] E (tCons (tCall (sp_fixed K) [] E0 (tCons (tVar 0) (tCons (tVar 4) (tCons (tVar 2) tNil)))) tNil))
def p1_filling (K : PySem.W.Frag) (E : XK) : TS :=
  tIfS (tTest (tOp rEq (tOp (rIxT K) (tOp (rIxL K) (tVar 0) (tVar 4)) (tC (.int 0))) (tVar 1))) (tSeq (tIfS (tTest (tOp (rIn K true) (tVar 2) (tOp (rIxL K) (tVar 3) (tVar 4)))) (tRaise E (He.ga K "NoWay")) tNext) (p0_filling K E)) tNext
def t_filling (K : PySem.W.Frag) (E : XK) : TS :=
  tSeq (tAsg (tCall (sp_numbers K) [] E (tCons (tVar 0) tNil)) (gName 3)) (tSeq (tFor (iRng1 (tCons (tCB (rLenL K) (tCons (tVar 0) tNil)) tNil)) (gName 4) (p1_filling K E)) (tRaise E (He.ga K "NoCord")))
abbrev n_filling : List Str := ["record", "name", "number", "found", "place"]

theorem len_filling (h : sp_filling K vs H Q E) : vs.length = (["record", "name", "number"] : List Str).length := by
  obtain ⟨_, _, _, rfl, _⟩ := h
  rfl
theorem pure_filling (K : PySem.W.Frag) (vs : List V) (H : Hp) (Q : VK) (E : XK) (h : sp_filling K vs H Q E) : t_filling K E { nx := fun _ H' => Q .non H', rt := Q } (start n_filling vs) H := by
  obtain ⟨p, n, m, rfl, ⟨R, P, x, hR, hl, el, qe⟩ | ⟨hp, q⟩⟩ := h
  · unfold t_filling
    walk_at "go"
    exact ⟨p, rfl, .inl ⟨R, P, x, hR, hl, el, qe⟩⟩
  · unfold t_filling
    walk_at "go"
    refine ⟨p, rfl, .inr ⟨hp, fun q1 H1 s1 _ h1 => ?_⟩⟩
    walk_at "go"
    refine g_forR1 ?_
    walk_at "go"
    refine g_lenL (SqL.of (s1 _ _ hp)) ?_
    walk_at "go"
    refine rng1_of (by decide) (by decide) ?_
    show forRng _ _ _ 0 _ _ _
    walk_at "go"
    exact q H1 s1
theorem g_forEn {g : TG} {tb : TS} {D : Ends} {ta : TA} {σ : L2.St} (h : ta σ H fun vs H1 => ∃ a xs, vs = [.ref a] ∧ SqL K H1 a xs ∧ ∃ W : Nat → Nat → L2.St → Hp → Prop, (∃ m, W 0 m σ H1) ∧ ∀ i m σ H, W i m σ H →
    ((Ite K a).stop i H ∧ D.nx σ H) ∨ ((Ite K a).go i H ∧ ∃ N : L2.St → Hp → Prop, (∀ σ' H', N σ' H' → ∃ m', m' < m ∧ W (i + 1) m' σ' H') ∧ ∀ v H', (Ite K a).yld i H v H' → g v σ H' fun σ2 H2 => tb { D with nx := N, ct := N, bk := D.nx } σ2 H2)) : tFor (iEnum K ta) g tb D σ H := h
def sp_mended (K : PySem.W.Frag) : Sp := fun vs H Q E => ∃ p, vs = [.ref p] ∧ BadOr K p H Q E
/-- mended: slots record, made, place, options, row, knots, k -/
def p0_mended (K : PySem.W.Frag) (E : XK) : TS :=
  tIfS (tTest (tOp rEq (tCB (rLenL K) (tCons (tOp (rIxL K) (tVar 3) (tVar 6)) tNil)) (tC (.int 1)))) (tAsg (tOp (rIxL K) (tOp (rIxL K) (tVar 3) (tVar 6)) (tC (.int 0))) (gSub (tVar 5) (tVar 6) rSetL)) tNext
def p1_mended (K : PySem.W.Frag) (E : XK) : TS :=
  tDrop (tBM K "list" rAppend (tVar 1) (tCons (tTup (tCons (tOp (rIxT K) (tVar 4) (tC (.int 0))) (tCons (tOp (rIxT K) (tVar 4) (tC (.int 1))) (tCons (tVar 5) tNil)))) tNil))
def p2_mended (K : PySem.W.Frag) (E : XK) : TS :=
  tSeq (tAsg (tOp (rIxL K) (tVar 0) (tVar 2)) (gName 4)) (tSeq (tAsg (tCB (rListL K) (tCons (tOp (rIxT K) (tVar 4) (tC (.int 2))) tNil)) (gName 5)) (tSeq (tFor (iRng1 (tCons (tC (.int 3)) tNil)) (gName 6) (p0_mended K E)) (p1_mended K E)))
def t_mended (K : PySem.W.Frag) (E : XK) : TS :=
  tSeq (tAsg (tLst tNil) (gName 1)) (tSeq (tFor (iEnum K (tCons (tCall (sp_told K) [] E (tCons (tVar 0) tNil)) tNil)) (gTup K 2 (gCons (gName 2) (gCons (gName 3) gNil))) (p2_mended K E)) (tRet (tVar 1)))
abbrev n_mended : List Str := ["record", "made", "place", "options", "row", "knots", "k"]

theorem len_mended (h : sp_mended K vs H Q E) : vs.length = (["record"] : List Str).length := by
  obtain ⟨_, rfl, _⟩ := h
  rfl
theorem pure_mended (K : PySem.W.Frag) (vs : List V) (H : Hp) (Q : VK) (E : XK) (h : sp_mended K vs H Q E) : t_mended K E { nx := fun _ H' => Q .non H', rt := Q } (start n_mended vs) H := by
  obtain ⟨p, rfl, ⟨R, P, x, hR, hl, el, qe⟩ | ⟨hp, q⟩⟩ := h
  · unfold t_mended
    walk_at "go"
    intro f hf
    walk_at "go"
    have s1 : Same H (upd H f (.lst [])) := same_new hf
    refine g_forEn ?_
    walk_at "go"
    exact ⟨p, rfl, .inl ⟨R, P, x, hR.same s1, hl, el, fun H' s' => qe H' (s1.trans s')⟩⟩
  · unfold t_mended
    walk_at "go"
    intro f hf
    walk_at "go"
    have s1 : Same H (upd H f (.lst [])) := same_new hf
    refine g_forEn ?_
    walk_at "go"
    refine ⟨p, rfl, .inr ⟨s1 _ _ hp, fun q1 H1 s2 _ h1 => ?_⟩⟩
    walk_at "go"
    refine ⟨q1, [], rfl, SqL.of h1, fun i m σ H => i = 0 ∧ m = 0 ∧ H = H1 ∧ σ = [some (.ref p), some (.ref f), none, none, none, none, none], ⟨0, rfl, rfl, rfl, rfl⟩, ?_⟩
    rintro i m σ Hx ⟨rfl, rfl, rfl, rfl⟩
    refine .inl ⟨?_, ?_⟩
    · exact ⟨[], SqL.of h1, Nat.zero_le _⟩
    · dsimp only
      walk_at "go"
      exact q f Hx (s1.trans s2) hf (s2 _ _ upd_same)
end
end Cor

/-! ## PuTm -/
/-! ### several except clauses that each name what they caught (turned from the worked rules for one such clause and for several without a name) -/
namespace Cor
open PySem PySem.Spec PyProof.Rows L2
def wManyA (K : PySem.W.Frag) (Wout : WX) (D : Ends) : List (Value × Nat × (Addr → Value → Option Addr → TS)) → WX
  | [] => Wout
  | (c, i, ts) :: r => fun cls d σ H => ∃ b, PySem.W.exmOne K cls c = some b ∧
      (b = true → ∀ a, H a = none → ts a cls d { nx := fun σ' H' => D.nx (σ'.set i none) H', rt := D.rt, bk := fun σ' H' => D.bk (σ'.set i none) H', ct := fun σ' H' => D.ct (σ'.set i none) H' } (σ.set i (some (.ref a))) H) ∧
      (b = false → wManyA K Wout D r cls d σ H)
def tTryMA (K : PySem.W.Frag) (l : List (Value × Nat × (Addr → Value → Option Addr → TS))) (tb : WX → TS) : TS := fun D σ H => tb (wManyA K (fun _ _ _ _ => False) D l) D σ H
inductive HdaOk (X : Cx) : List ExceptHandler → List (Value × Nat × (Addr → Value → Option Addr → TS)) → Prop
  | nil : HdaOk X [] []
  | cons {x n : Str} {c : Value} {i : Nat} {ts : Addr → Value → Option Addr → TS} {b₀ : Stmt} {suite : List Stmt} {np pos' : Pos} {hds : List ExceptHandler} {l : List (Value × Nat × (Addr → Value → Option Addr → TS))} (hc : Names X x c)
      (hN : X.N.Nodup) (hi : X.N[i]? = some n) (hln : X.env.kindOf n = some .local)
      (hsu : ∀ (a : Addr) (oe : Obj) (cls : Value) (d : Option Addr) (pn : List (Addr × Obj)), Zc cls d oe → (∃ vs, oe.data = .fields vs) → PSs (X.suite a ((a, oe) :: pn)) (b₀ :: suite) (ts a cls d)) (r : HdaOk X hds l) :
      HdaOk X (.ExceptHandler (some (.Name x np)) (some n) (b₀ :: suite) pos' :: hds) ((c, i, ts) :: l)
section
variable {X : Cx} {body : List Stmt} {h₀ : ExceptHandler} {hds : List ExceptHandler} {l : List (Value × Nat × (Addr → Value → Option Addr → TS))} {pos : Pos} {tb : WX → TS} {Wout : WX}
theorem ps_try_manyA (hs : X.stack = X.env :: X.outer) (hf : X.env.frame = some X.env.locals) (tk : Takes X Wout)
    (hb : ∀ (W : WX) (pn : List (Addr × Obj)) (xe : Value → Shared → Prop), Takes (X.tr pn xe) W → PassesOwn (model X.prog X.w) X.A X.env xe → PSs (X.tr pn xe) body (tb W))
    (hh : HdaOk X (h₀ :: hds) l) : PS X (.Try body (h₀ :: hds) [] [] pos) (fun D σ H => tb (wManyA X.K Wout D l) D σ H) := by
  refine ⟨fun pins s σ H D I h => ?_⟩
  have ok := I.ok
  have hfr : X.A.frames = some (X.env :: X.outer) := by rw [ok.frames, hs]
  refine wpAny_Try_except ?_
  refine wpAny_mono ((hb (wManyA X.K Wout D l) (X.pn ++ pins) (fun e s₁ => wpAny (model X.prog X.w) X.A (noteFrame e X.env) (fun _ s₂ => wpAny (model X.prog X.w) X.A (setFlight e none) (fun _ s₃ =>
    wpAny (model X.prog X.w) X.A (handleBy e X.env (h₀ :: hds)) (SP X pins D) X.xe s₃) X.xe s₂) X.xe s₁) (fun u s' xx => ?_) PassesOwn.looking).run [] s σ H D (I.toTry _) h) (fun f s1 hsp => ?_) (fun e s1 he => he)
  · -- the catch
    obtain ⟨a, B, sI, pins', σ', H', cls, d, rfl, J', nb, up, sky, na, os, ag, w⟩ := xx
    have J : Inv X pins σ' H' sI := J'.ofTry ok
    have sky' : Sky B (X.env :: X.outer) a (Zc cls d) X.env.locals s'.heap := by rw [← hs]; exact sky
    show wpAny (model X.prog X.w) X.A (noteFrame (.ref a) X.env) _ _ _
    refine Sky.land Zc.steady hfr hf sky' fun h3 fl3 up3 => ?_
    have J3 : Inv X pins σ' H' { s' with heap := h3 } := J.landed nb fl3.1 (up.trans up3) os ag
    obtain ⟨oe3, vs3, he3, hz3, hd3⟩ := fl3.there
    have notFr : ∀ {h : Heap} {o : Obj} {vs : Array Value}, h.FunFrames B (X.env :: X.outer) → h.get? a = some o → o.data = .fields vs → a ∉ frs (X.env :: X.outer) := fun {h o vs} ff e dd hm => by
      obtain ⟨_, o', e', hnf⟩ := ff.mem hm
      rw [e] at e'; cases e'
      exact hnf _ dd
    have nfr := notFr fl3.2.2.1 he3 hd3
    have nL : a ≠ X.env.locals := fun z => nfr (List.mem_filterMap.mpr ⟨X.env, List.mem_cons_self, by rw [hf, z]⟩)
    have nF : a ∉ X.fs := fun hm => by
      obtain ⟨e, he, q⟩ := List.mem_filterMap.mp hm
      exact nfr (List.mem_filterMap.mpr ⟨e, List.mem_cons_of_mem _ he, q⟩)
    have S3 := J3.suite he3 hd3 na nL nF
    have go : ∀ {hds' : List ExceptHandler} {l' : List (Value × Nat × (Addr → Value → Option Addr → TS))}, HdaOk X hds' l' → wManyA X.K Wout D l' cls d σ' H' →
        wpAny (model X.prog X.w) X.A (handleBy (.ref a) X.env hds') (SP X pins D) X.xe { s' with heap := h3 } := by
      intro hds' l' hk
      induction hk with
      | nil =>
        intro w
        refine wpAny_handleBy_nil ?_
        obtain ⟨k1, k2, k3, oe, vs, T, oT, ts', he, hz, hd, h1, hr⟩ := id fl3
        unfold PySem.passOn
        refine wpAny_bind (wpAny_field he hd h1 ?_)
        rw [if_neg (show ¬ ((Value.ref T == Value.none) = true) from by simp)]
        have fin : wpAny (model X.prog X.w) X.A (setFlight (.ref a) X.env.frame) (fun _ s4 => wpAny (model X.prog X.w) X.A (throw (.ref a) : Sem Flow) (SP X pins D) X.xe s4) X.xe { s' with heap := h3 } := by
          rw [hf]
          refine HandSPX.setFlight_upZ fl3 fun h4 hh4 up4 => wpAny_throw (tk _ _ ?_)
          exact ⟨a, B, sI, pins, σ', H', cls, d, rfl, J, nb, (up.trans up3).trans up4, .inr (.inr (by rw [hs]; exact hh4)), na, os, ag, w⟩
        first
          | exact wpAny_bind (wpAny_pure (wpAny_bind fin))
          | exact wpAny_bind fin
      | @cons x n c i ts b₀ suite np pos' hds2 l2 hc hN hi hln hsu r ih =>
        intro w
        obtain ⟨b, hb1, hyes, hno⟩ := w
        refine wpAny_handleBy_cons (codeAny_handlers_test ?_) (by intro q; cases q)
        have LT : PySem.W.Looks (model X.prog X.w) h3 (typeOf (.ref a)) cls := fun A Q E s k q => wpAny_typeOf_ref (k _ _ he3) (by rw [hz3.1]; exact q)
        have LM := PySem.W.exm_one (M := model X.prog X.w) (J3.kIn) LT hb1
        have test : ∀ {Q : Value → Shared → Prop} {E : Value → Shared → Prop}, Q c { s' with heap := h3 } → wpAny (model X.prog X.w) (X.A.mark (some (.ref a))) (eval (.Name x np) X.env) Q E { s' with heap := h3 } := fun {Q E} q => by
          obtain ⟨hg, hdbg, hm | ⟨hm, hv, hnn⟩⟩ := hc
          · exact ld_glob (X := X.suite a ((a, oe3) :: (X.pn ++ pins))) S3 hg hm q hdbg
          · exact ld_blt (X := X.suite a ((a, oe3) :: (X.pn ++ pins))) S3 hg hm hv q hnn hdbg
        refine test (LM.here ?_)
        cases b with
        | true =>
          have hloc : Loc X.env.scope n := .inl hln
          refine codeAny_handlers_suite_as ?_
          refine HandSPX.lands_againZ fl3 fun h4 fl4 up4 => ?_
          have J4 : Inv X pins σ' H' { s' with heap := h4 } := J.landed nb fl4.1 ((up.trans up3).trans up4) os ag
          obtain ⟨oe4, vs4, he4, hz4, hd4⟩ := fl4.there
          have S4 := J4.suite he4 hd4 na nL nF
          refine store_ok (X := X.suite a ((a, oe4) :: (X.pn ++ pins))) (v := .ref a) S4 hN hi hloc rfl (fun s5 S5 => ?_) (.inr hln)
          refine wpAny_mono ((hsu a oe4 cls d (X.pn ++ pins) hz4 ⟨_, hd4⟩).run [] s5 _ H' _ S5 (hyes rfl a na)) (fun f s6 hsp => ?_) (fun _ _ z => False.elim z)
          have end_ : ∀ {σ6 : L2.St} {H6 : Hp} {Q : Shared → Prop}, Inv (X.suite a ((a, oe4) :: (X.pn ++ pins))) [] σ6 H6 s6 → (∀ s7, Inv X pins (σ6.set i none) H6 s7 → Q s7) →
              wpAny (model X.prog X.w) X.A (do bindName X.env n .none; unbindBehindTheSuite X.env n pos') (fun _ s7 => Q s7) X.xe s6 := fun {σ6 H6 Q} S6 hq => gone_ok (S6.unsuite ok) hN hi hln hq
          cases f with
          | next =>
            obtain ⟨σ6, H6, S6, q6⟩ := hsp
            exact end_ S6 fun s7 J7 => ⟨_, _, J7, q6⟩
          | brk =>
            obtain ⟨σ6, H6, S6, q6⟩ := hsp
            exact end_ S6 fun s7 J7 => ⟨_, _, J7, q6⟩
          | cont =>
            obtain ⟨σ6, H6, S6, q6⟩ := hsp
            exact end_ S6 fun s7 J7 => ⟨_, _, J7, q6⟩
          | ret u =>
            obtain ⟨v6, σ6, H6, S6, r6, q6⟩ := hsp
            exact end_ S6 fun s7 J7 => ⟨_, _, _, J7, r6, q6⟩
        | false =>
          show wpAny _ X.A (handleBy (.ref a) X.env hds2) _ _ _
          exact ih (hno rfl)
    exact go hh w
  · cases f with
    | next =>
      obtain ⟨σ', H', J', q⟩ := hsp
      exact wpAny_execs_nil ⟨σ', H', J'.ofTry ok, q⟩
    | brk =>
      obtain ⟨σ', H', J', q⟩ := hsp
      exact ⟨σ', H', J'.ofTry ok, q⟩
    | cont =>
      obtain ⟨σ', H', J', q⟩ := hsp
      exact ⟨σ', H', J'.ofTry ok, q⟩
    | ret u =>
      obtain ⟨v, σ', H', J', r, q⟩ := hsp
      exact ⟨v, σ', H', J'.ofTry ok, r, q⟩
end
section
variable {K : PySem.W.Frag} {Wout : WX} {D : Ends} {σ : L2.St} {H : Hp}
theorem wmanyA_hit {x y : Str} {i : Nat} {ts : Addr → Value → Option Addr → TS} {l} (hx : Exm K x y true) (h : ∀ a, H a = none → ts a (.ref (He.ga K x)) none { nx := fun σ' H' => D.nx (σ'.set i none) H', rt := D.rt, bk := fun σ' H' => D.bk (σ'.set i none) H', ct := fun σ' H' => D.ct (σ'.set i none) H' } (σ.set i (some (.ref a))) H) :
    WE (wManyA K Wout D ((.ref (He.ga K y), i, ts) :: l)) σ (.ref (He.ga K x)) none H := ⟨true, hx, fun _ a ha => h a ha, fun z => nomatch z⟩
theorem wmanyA_skip {x y : Str} {i : Nat} {ts : Addr → Value → Option Addr → TS} {l} (hx : Exm K x y false) (h : WE (wManyA K Wout D l) σ (.ref (He.ga K x)) none H) : WE (wManyA K Wout D ((.ref (He.ga K y), i, ts) :: l)) σ (.ref (He.ga K x)) none H := ⟨false, hx, (fun z => nomatch z), fun _ => h⟩
theorem g_tryMA {l : List (Value × Nat × (Addr → Value → Option Addr → TS))} {tb : WX → TS} (h : tb (wManyA K (fun _ _ _ _ => False) D l) D σ H) : tTryMA K l tb D σ H := h
end
end Cor

/-! ## L16 -/
/-! ### law k16 -/
namespace Cor
open PySem PySem.Spec PyProof.Rows L2
theorem flat_ints (l : List Int) : (l.map V.int).all flatV = true := by
  rw [List.all_eq_true]
  intro x hx
  obtain ⟨_, _, rfl⟩ := List.mem_map.mp hx
  rfl
theorem inV_ints (k : Int) : ∀ l : List Int, inV (.int k) (l.map V.int) = decide (k ∈ l)
  | [] => rfl
  | x :: r => by
    have ih := inV_ints k r
    unfold inV at ih ⊢
    rw [List.map_cons, List.any_cons, ih]
    show ((x == k) || decide (k ∈ r)) = _
    by_cases e : x = k
    · subst e; simp
    · have : k ≠ x := fun z => e z.symm
      simp [e, this]
theorem posI_first {k i : Int} : ∀ {ns : List Int}, posI ns k = some i → ∀ {j : Nat}, j < i.toNat → ns[j]? ≠ some k
  | [], h, _, _ => by cases h
  | n :: r, h, j, hj => by
    unfold posI at h
    by_cases e : n = k
    · rw [if_pos e] at h
      cases h
      cases hj
    · rw [if_neg e] at h
      cases hp : posI r k with
      | none => rw [hp] at h; cases h
      | some i' =>
        rw [hp] at h
        have h : i' + 1 = i := Option.some.inj h
        subst h
        have h0 := (posI_some hp).1
        cases j with
        | zero =>
          rw [List.getElem?_cons_zero]
          exact fun z => e (Option.some.inj z)
        | succ j =>
          rw [List.getElem?_cons_succ]
          exact posI_first hp (by omega)
section
variable {K : PySem.W.Frag} {vs : List V} {H : Hp} {Q : VK} {E : XK}
def sp_law_due (K : PySem.W.Frag) : Sp := fun vs H Q _ => ∃ p R P, vs = [.ref p] ∧ RecAt H P p R ∧ R.length ≤ 900 ∧
  (∀ ov q H', lookB R = .ok ov → Same H H' → H q = none → H' q = some (.lst (ov.map oV)) → Q (.ref q) H') ∧ ∀ x H', lookB R = .error x → Same H H' → Q (.str (if x = "Taken" then ("taken" : Str) else ("no cord" : Str))) H'
/-- _law_due: slots rows, names, found, row -/
def p0_law_due (K : PySem.W.Frag) (E : XK) : TS :=
  tDrop (tBM K "list" rAppend (tVar 1) (tCons (tOp (rIxT K) (tVar 3) (tC (.int 0))) tNil))
def p1_law_due (K : PySem.W.Frag) (E : XK) : TS :=
  tSeq (tIfS (tTest (tOp rIsN (tOp (rIxT K) (tVar 3) (tC (.int 1))) (tC .non))) (tDrop (tBM K "list" rAppend (tVar 2) (tCons (tC .non) tNil))) (tIfS (tTest (tOp (rIn K false) (tOp (rIxT K) (tVar 3) (tC (.int 1))) (tVar 1))) (tDrop (tBM K "list" rAppend (tVar 2) (tCons (tBM K "list" (rIndex K) (tVar 1) (tCons (tOp (rIxT K) (tVar 3) (tC (.int 1))) tNil)) tNil))) (tRet (tC (.str "no cord"))))) (p0_law_due K E)
def p2_law_due (K : PySem.W.Frag) (E : XK) : TS :=
  tSeq (tIfS (tTest (tOp (rIn K false) (tOp (rIxT K) (tVar 3) (tC (.int 0))) (tVar 1))) (tRet (tC (.str "taken"))) tNext) (p1_law_due K E)
def t_law_due (K : PySem.W.Frag) (E : XK) : TS :=
  tSeq (tAsg (tLst tNil) (gName 1)) (tSeq (tAsg (tLst tNil) (gName 2)) (tSeq (tFor (iList K (tVar 0)) (gName 3) (p2_law_due K E)) (tRet (tVar 2))))
abbrev n_law_due : List Str := ["rows", "names", "found", "row"]

theorem len_law_due (h : sp_law_due K vs H Q E) : vs.length = (["rows"] : List Str).length := by
  obtain ⟨_, _, _, rfl, _⟩ := h
  rfl
theorem pure_law_due (K : PySem.W.Frag) (vs : List V) (H : Hp) (Q : VK) (E : XK) (h : sp_law_due K vs H Q E) : t_law_due K E { nx := fun _ H' => Q .non H', rt := Q } (start n_law_due vs) H := by
  obtain ⟨p, R, P, rfl, ⟨xs, hp, _, dp⟩, hl, q, qe⟩ := h
  have hxl := dp.len
  unfold t_law_due
  walk_at "go"
  intro m hm
  walk_at "go"
  intro f hf
  walk_at "go"
  have s1 : Same H (upd H m (.lst [])) := same_new hm
  have s2 : Same (upd H m (.lst [])) (upd (upd H m (.lst [])) f (.lst [])) := same_new hf
  have s02 := s1.trans s2
  have fH := s1.free hf
  have nmf : m ≠ f := ne_of_none (upd_same : upd H m (HO.lst []) m = _) hf
  refine g_forL ?_
  walk_at "go"
  refine for_go (xs := xs) ?_
  refine forL_run (fun l r σ H' => ∃ (w3 : Option V) (Rd Rt : Rc) (fov : List (Option Int)), σ = [some (.ref p), some (.ref m), some (.ref f), w3] ∧ Same H H' ∧ RcAll H' (fun a => P a ∧ a ≠ f ∧ a ≠ m) r Rt ∧ H' m = some (.lst ((Rd.map (·.1)).map V.int)) ∧ H' f = some (.lst (fov.map oV)) ∧ R = Rd ++ Rt ∧ fov.length = Rd.length ∧ lookB R = (lookF (Rd.map (·.1)) Rt).map (fov ++ ·)) ?_ ?_ ?_ ⟨_, [], R, [], rfl, s02, dp.move (fun a ys ha => s02 _ _ ha) (fun a ys h1 h2 => ⟨s02 _ _ h1, h2, fun z => by (rw [z, fH] at h1; cases h1), fun z => by (rw [z, hm] at h1; cases h1)⟩), s2 _ _ upd_same, upd_same, rfl, rfl, ?_⟩
  · rintro l r σ H1 ⟨w3, Rd, Rt, fov, rfl, s1, _⟩
    exact SqL.of (s1 _ _ hp)
  · rintro l x r σ H1 N ⟨w3, Rd, Rt, fov, rfl, s1, dr, hm1, hf1, eR, fl, el⟩ hN
    obtain ⟨w, Rt, t, k, rfl, rfl, ht, hkk, hP, dr⟩ := dr.split
    have hRl : Rd.length < 900 := by
      rw [eR, List.length_append, List.length_cons] at hl
      omega
    unfold lookF at el
    walk_at "go"
    unfold p2_law_due
    walk_at "go"
    refine g_ixT (SqT.of ht) (show atI (rwV w k) 0 = some (.int w.1) from rfl) ?_
    walk_at "go"
    refine g_in (SqL.of hm1) rfl (flat_ints _) ?_
    rw [inV_ints]
    walk_at "go"
    refine g_iteD (fun hin => ?_) (fun hin => ?_)
    · rw [if_pos hin] at el
      walk_at "go"
      have := qe "Taken" H1 el s1
      rw [if_pos rfl] at this
      exact this
    rw [if_neg hin] at el
    have last : ∀ (u : Option Int) (Hx : Hp) (D : Ends), Same H Hx → Hx m = some (.lst ((Rd.map (·.1)).map V.int)) → Hx f = some (.lst ((fov ++ [u]).map oV)) → RcAll Hx (fun a => P a ∧ a ≠ f ∧ a ≠ m) r Rt → Hx t = some (.tup (rwV w k)) → lookB R = ((lookF ((Rd ++ [w]).map (·.1)) Rt).map (u :: ·)).map (fov ++ ·) → D.nx = N → p0_law_due K E D [some (.ref p), some (.ref m), some (.ref f), some (.ref t)] Hx := by
      intro u Hx D sx hmx hfx drx htx elx hD
      unfold p0_law_due
      walk_at "go"
      refine ⟨ty_list (SqL.of hmx), ?_⟩
      walk_at "go"
      refine g_ixT (SqT.of htx) (show atI (rwV w k) 0 = some (.int w.1) from rfl) ?_
      walk_at "go"
      refine g_append hmx (sz_lt (by rw [List.length_map, List.length_map]; omega)) ?_
      rw [hD]
      refine hN _ _ ⟨_, Rd ++ [w], Rt, fov ++ [u], rfl, same_mut sx hm, drx.upd hmx fun a h => h.2.2, by rw [upd_same, List.map_append, List.map_append] <;> rfl, by rw [upd_ne (Ne.symm nmf)]; exact hfx, by rw [eR, List.append_assoc] <;> rfl, by rw [List.length_append, List.length_append, List.length_singleton, List.length_singleton, fl], ?_⟩
      rw [elx, map_map_ex]
      congr 1
      funext y
      rw [List.append_assoc] <;> rfl
    walk_at "nx"
    unfold p1_law_due
    walk_at "go"
    refine g_ixT (SqT.of ht) (show atI (rwV w k) 1 = some (oV w.2.1) from rfl) ?_
    have hfl : (fov.map oV).length < sizeLine := sz_lt (by rw [List.length_map]; omega)
    have app : ∀ (u : Option Int) (D : Ends), lookB R = ((lookF ((Rd ++ [w]).map (·.1)) Rt).map (u :: ·)).map (fov ++ ·) → D.nx = N → p0_law_due K E D [some (.ref p), some (.ref m), some (.ref f), some (.ref t)] (upd H1 f (.lst (fov.map oV ++ [oV u]))) := fun u D elx hD =>
      last u _ D (same_mut s1 fH) (by rw [upd_ne nmf]; exact hm1) (by rw [upd_same, List.map_append] <;> rfl) (dr.upd hf1 fun a h => h.2.1) (by rw [upd_ne (ne_kd ht hf1 (by intro z; cases z))]; exact ht) elx hD
    cases eo : w.2.1 with
    | none =>
      rw [eo] at el
      walk_at "go"
      refine ⟨ty_list (SqL.of hf1), ?_⟩
      walk_at "go"
      refine g_append (y := oV none) hf1 hfl ?_
      walk_at "go"
      exact app none _ (by rw [el, List.map_append] <;> rfl) rfl
    | some o =>
      rw [eo] at el
      walk_at "go"
      refine g_ixT (SqT.of ht) (show atI (rwV w k) 1 = some (oV w.2.1) from rfl) ?_
      rw [eo]
      walk_at "go"
      refine g_in (v := .int o) (SqL.of hm1) rfl (flat_ints _) ?_
      rw [inV_ints]
      walk_at "go"
      dsimp only at el
      refine g_iteD (fun hin2 => ?_) (fun hin2 => ?_)
      · cases hp2 : posI (Rd.map (·.1)) o with
        | none => exact absurd hin2 (posI_none.mp hp2)
        | some i =>
          rw [hp2] at el
          obtain ⟨i0, i1⟩ := posI_some hp2
          walk_at "go"
          refine ⟨ty_list (SqL.of hf1), ?_⟩
          walk_at "go"
          refine ⟨ty_list (SqL.of hm1), ?_⟩
          walk_at "go"
          refine g_ixT (SqT.of ht) (show atI (rwV w k) 1 = some (oV w.2.1) from rfl) ?_
          rw [eo]
          refine ⟨m, _, .int o, i.toNat, .int o, rfl, rfl, SqL.of hm1, rfl, flat_ints _, by rw [List.getElem?_map, i1] <;> rfl, beq_self_eq_true o, fun j z' hj hz => ?_, ?_⟩
          · rw [List.getElem?_map] at hz
            cases hg : (Rd.map (·.1))[j]? with
            | none => rw [hg] at hz; cases hz
            | some y =>
              rw [hg] at hz
              cases hz
              show (y == o) = false
              exact beq_eq_false_iff_ne.mpr fun e => posI_first hp2 hj (by rw [hg, e])
          walk_at "go"
          rw [show ((i.toNat : Nat) : Int) = i from Int.toNat_of_nonneg i0]
          refine g_append (y := oV (some i)) hf1 hfl ?_
          walk_at "go"
          exact app (some i) _ (by rw [el, List.map_append] <;> rfl) rfl
      · rw [posI_none.mpr hin2] at el
        walk_at "go"
        have := qe "NoCord" H1 el s1
        rw [if_neg (by decide)] at this
        exact this
  · rintro σ H1 ⟨w3, Rd, Rt, fov, rfl, s1, dr, hm1, hf1, eR, fl, el⟩
    cases dr
    walk_at "go"
    refine q fov f H1 ?_ s1 fH hf1
    rw [el]
    show Except.ok (fov ++ []) = _
    rw [List.append_nil]
  · unfold lookB
    show lookF [] R = (lookF [] R).map fun y => y
    cases lookF [] R <;> rfl
def sp_law_places (K : PySem.W.Frag) : Sp := fun vs H Q _ => ∃ (p q : Addr) (ov : List (Option Int)), vs = [.ref p, .ref q] ∧ H p = some (.lst (ov.map oV)) ∧ SqL K H q (ov.map oV) ∧ ov.length ≤ 900 ∧ Q (.bl true) H
/-- _law_places: slots found, due, k -/
def p0_law_places (K : PySem.W.Frag) (E : XK) : TS :=
  tIfS (tAnd (tTest (tOp rNotN (tOp (rIxL K) (tVar 1) (tVar 2)) (tC .non))) (tOr (tNot (tB (tCall (sp_law_whole K) [] E0 (tCons (tOp (rIxL K) (tVar 0) (tVar 2)) tNil)))) (tTest (tOp rNe (tOp (rIxL K) (tVar 0) (tVar 2)) (tOp (rIxL K) (tVar 1) (tVar 2)))))) (tRet (tC (.bl false))) tNext
def p1_law_places (K : PySem.W.Frag) (E : XK) : TS :=
  tSeq (tIfS (tAnd (tTest (tOp rIsN (tOp (rIxL K) (tVar 1) (tVar 2)) (tC .non))) (tTest (tOp rNotN (tOp (rIxL K) (tVar 0) (tVar 2)) (tC .non)))) (tRet (tC (.bl false))) tNext) (p0_law_places K E)
def p2_law_places (K : PySem.W.Frag) (E : XK) : TS :=
  tSeq (tFor (iRng1 (tCons (tCB (rLenL K) (tCons (tVar 1) tNil)) tNil)) (gName 2) (p1_law_places K E)) (tRet (tC (.bl true)))
def t_law_places (K : PySem.W.Frag) (E : XK) : TS :=
  tSeq (tIfS (tOr (tNot (tB (tCB (rIsi K) (tCons (tVar 0) (tCons (tC (.ty "list")) tNil))))) (tTest (tOp rNe (tCB (rLenL K) (tCons (tVar 0) tNil)) (tCB (rLenL K) (tCons (tVar 1) tNil))))) (tRet (tC (.bl false))) tNext) (p2_law_places K E)
abbrev n_law_places : List Str := ["found", "due", "k"]

theorem len_law_places (h : sp_law_places K vs H Q E) : vs.length = (["found", "due"] : List Str).length := by
  obtain ⟨_, _, _, rfl, _⟩ := h
  rfl
theorem at_oW {ov : List (Option Int)} {i : Nat} {o : Option Int} (h : ov[i]? = some o) : atI (ov.map oV) (i : Int) = some (oV o) := by
  refine atI_nat ?_
  rw [List.getElem?_map, h] <;> rfl
theorem pure_law_places (K : PySem.W.Frag) (vs : List V) (H : Hp) (Q : VK) (E : XK) (h : sp_law_places K vs H Q E) : t_law_places K E { nx := fun _ H' => Q .non H', rt := Q } (start n_law_places vs) H := by
  obtain ⟨p, r, ov, rfl, hp, hr, hl, q⟩ := h
  unfold t_law_places
  walk_at "go"
  refine g_isi (b := true) (tx_lst hp) (show L2.kitB "list" "list" = some true by decide +kernel) ?_
  walk_at "go"
  refine g_lenL (SqL.of hp) ?_
  walk_at "go"
  refine g_lenL hr ?_
  walk_at "go"
  refine dec_NT rfl ?_
  walk_at "nx"
  unfold p2_law_places
  walk_at "go"
  refine g_forR1 ?_
  walk_at "go"
  refine g_lenL hr ?_
  walk_at "go"
  rw [List.length_map]
  refine rng1_of (by omega) (by omega) ?_
  rw [Int.toNat_natCast]
  refine forR_run ov.length (fun i σ H' => ∃ w2, σ = [some (.ref p), some (.ref r), w2] ∧ H' = H) ?_ ?_ ⟨_, rfl, rfl⟩
  · rintro i σ H1 N hi ⟨w2, rfl, rfl⟩ hN
    have eo : ov[i]? = some ov[i] := List.getElem?_eq_getElem hi
    have a1 := at_oW eo
    walk_at "go"
    unfold p1_law_places
    walk_at "go"
    refine g_ixL hr a1 ?_
    cases ho : ov[i] with
    | none =>
      rw [ho] at a1
      walk_at "go"
      refine g_ixL (SqL.of hp) a1 ?_
      walk_at "go"
      unfold p0_law_places
      walk_at "go"
      refine g_ixL hr a1 ?_
      walk_at "go"
      exact hN _ _ ⟨_, rfl, rfl⟩
    | some y =>
      rw [ho] at a1
      walk_at "go"
      unfold p0_law_places
      walk_at "go"
      refine g_ixL hr a1 ?_
      walk_at "go"
      refine g_ixL (SqL.of hp) a1 ?_
      walk_at "go"
      refine ⟨_, rfl, ?_⟩
      walk_at "go"
      refine g_ixL (SqL.of hp) a1 ?_
      walk_at "go"
      refine g_ixL hr a1 ?_
      walk_at "go"
      refine dec_NT rfl ?_
      walk_at "go"
      exact hN _ _ ⟨_, rfl, rfl⟩
  · rintro σ H1 ⟨w2, rfl, rfl⟩
    walk_at "go"
    exact q
def sp_law_empty (K : PySem.W.Frag) : Sp := fun vs H Q _ => ∃ n, vs = [.int n] ∧ ∀ H', Same H H' → Q (.bl true) H'
/-- _law_empty: slots name, way -/
def p0_law_empty (K : PySem.W.Frag) (E : XK) : TS :=
  tRet (tAndV (tOp (rEqD K) (tCall (sp_numbers K) [] E0 (tCons (tLst tNil) tNil)) (tLst tNil)) (tAndV (tOp (rEqD K) (tCall (sp_told K) [] E0 (tCons (tLst tNil) tNil)) (tLst tNil)) (tOp (rEqD K) (tCall (sp_first K) [] E0 (tCons (tLst tNil) tNil)) (tLst tNil))))
def p1_law_empty (K : PySem.W.Frag) (E : XK) : TS :=
  tSeq (tIfS (tOr (tTest (tOp rNe (tVar 1) (tC (.str "no cord")))) (tOr (tTest (tOp (rNeD K) (tCall (sp_looked K) [] E0 (tCons (tLst tNil) tNil)) (tLst tNil))) (tTest (tOp (rNeD K) (tCall (sp_mended K) [] E0 (tCons (tLst tNil) tNil)) (tLst tNil))))) (tRet (tC (.bl false))) tNext) (p0_law_empty K E)
def t_law_empty (K : PySem.W.Frag) (E : XK) : TS :=
  tSeq (tAsg (tC (.str "")) (gName 1)) (tSeq (tTryO K (Value.ref (He.ga K "NoCord")) (fun W => tDrop (tCallS (sp_filling K) (WE W) (tCons (tLst tNil) (tCons (tVar 0) (tCons (tC (.int 5)) tNil))))) (fun a cls d => tAsg (tC (.str "no cord")) (gName 1))) (p1_law_empty K E))
abbrev n_law_empty : List Str := ["name", "way"]

theorem len_law_empty (h : sp_law_empty K vs H Q E) : vs.length = (["name"] : List Str).length := by
  obtain ⟨_, rfl, _⟩ := h
  rfl
theorem dp_nil {H : Hp} {p : Addr} (h : H p = some (.lst [])) : Dp K H (.ref p) (.list []) := .lst (SqL.of h) .nil
theorem pure_law_empty (K : PySem.W.Frag) (x1 : Exm K "NoCord" "NoCord" true) (vs : List V) (H : Hp) (Q : VK) (E : XK) (h : sp_law_empty K vs H Q E) : t_law_empty K E { nx := fun _ H' => Q .non H', rt := Q } (start n_law_empty vs) H := by
  obtain ⟨n, rfl, q⟩ := h
  unfold t_law_empty
  walk_at "go"
  intro e1 he1
  walk_at "go"
  have s1 : Same H (upd H e1 (.lst [])) := same_new he1
  refine ⟨e1, _, _, rfl, .inr ⟨upd_same, fun H1 t1 => ?_⟩⟩
  have s1 := s1.trans t1
  refine wonly_yes x1 fun a ha => ?_
  walk_at "go"
  unfold p1_law_empty
  walk_at "go"
  refine dec_NT rfl ?_
  walk_at "go"
  intro e2 he2
  have s2 : Same H1 (upd H1 e2 (.lst [])) := same_new he2
  refine ⟨e2, [], _, rfl, rec0 upd_same, by decide, fun ov p2 H2 eo t2 _ h2 => ?_, fun x H' e => by (cases e)⟩
  cases eo
  have s2 := (s1.trans s2).trans t2
  walk_at "go"
  intro e3 he3
  have s3 : Same H2 (upd H2 e3 (.lst [])) := same_new he3
  refine ⟨_, _, dp_nil (s3 _ _ h2), dp_nil upd_same, rfl, rfl, ?_⟩
  rw [show PyData.eqv (.list []) (.list []) = true from rfl]
  walk_at "go"
  intro e4 he4
  have s4 := same_new (o := HO.lst []) he4
  refine ⟨e4, rfl, .inr ⟨upd_same, fun p4 H4 t4 _ h4 => ?_⟩⟩
  have s4 := ((s2.trans s3).trans s4).trans t4
  walk_at "go"
  intro e5 he5
  have s5 : Same H4 (upd H4 e5 (.lst [])) := same_new he5
  refine ⟨_, _, dp_nil (s5 _ _ h4), dp_nil upd_same, rfl, rfl, ?_⟩
  rw [show PyData.eqv (.list []) (.list []) = true from rfl]
  walk_at "go"
  unfold p0_law_empty
  walk_at "go"
  intro e6 he6
  have s6 := same_new (o := HO.lst []) he6
  refine ⟨e6, rfl, .inr ⟨upd_same, fun p6 H6 t6 _ h6 => ?_⟩⟩
  have s6 := ((s4.trans s5).trans s6).trans t6
  walk_at "go"
  intro e7 he7
  have s7 : Same H6 (upd H6 e7 (.lst [])) := same_new he7
  refine ⟨_, _, dp_nil (s7 _ _ h6), dp_nil upd_same, rfl, rfl, ?_⟩
  rw [show PyData.eqv (.list []) (.list []) = true from rfl]
  walk_at "go"
  intro e8 he8
  have s8 := same_new (o := HO.lst []) he8
  refine ⟨e8, rfl, .inr ⟨upd_same, fun p8 H8 t8 _ h8 => ?_⟩⟩
  have s8 := ((s6.trans s7).trans s8).trans t8
  walk_at "go"
  intro e9 he9
  have s9 : Same H8 (upd H8 e9 (.lst [])) := same_new he9
  refine ⟨_, _, dp_nil (s9 _ _ h8), dp_nil upd_same, rfl, rfl, ?_⟩
  rw [show PyData.eqv (.list []) (.list []) = true from rfl]
  walk_at "go"
  intro e10 he10
  have s10 := same_new (o := HO.lst []) he10
  refine ⟨e10, rfl, .inr ⟨upd_same, fun p10 H10 t10 _ h10 => ?_⟩⟩
  have s10 := ((s8.trans s9).trans s10).trans t10
  walk_at "go"
  intro e11 he11
  have s11 : Same H10 (upd H10 e11 (.lst [])) := same_new he11
  refine ⟨_, _, dp_nil (s11 _ _ h10), dp_nil upd_same, rfl, rfl, ?_⟩
  exact q _ (s10.trans s11)
def sp_law_drawn (K : PySem.W.Frag) : Sp := fun vs H Q _ => ∃ (a : Addr) (cs : List Int), vs = [.ref a] ∧ SqL K H a (cs.map V.int) ∧ ∀ R p H', Fig3 R → R.length ≤ 12 → Same H H' → RecNew H H' p R → Q (.ref p) H'
/-- _law_drawn: slots script, rows, base, k, cell, pick, name, over -/
def p0_law_drawn (K : PySem.W.Frag) (E : XK) : TS :=
  tDrop (tBM K "list" rAppend (tVar 1) (tCons (tTup (tCons (tVar 6) (tCons (tVar 7) (tCons (tCall (sp_law_figures K) [] E0 (tCons (tOp rModI (tVar 4) (tC (.int 1000))) tNil)) tNil)))) tNil))
def p1_law_drawn (K : PySem.W.Frag) (E : XK) : TS :=
  tSeq (tIfS (tTest (tOp rEq (tOp rModI (tVar 5) (tC (.int 23))) (tC (.int 22)))) (tAsg (tOp rModI (tOp rAddI (tVar 2) (tC (.int 1))) (tC (.int 900000))) (gName 7)) tNext) (p0_law_drawn K E)
def p2_law_drawn (K : PySem.W.Frag) (E : XK) : TS :=
  tSeq (tIfS (tTest (tOp rEq (tOp rModI (tVar 5) (tC (.int 23))) (tC (.int 21)))) (tAsg (tOp rAddI (tVar 2) (tOp rMulI (tC (.int 997)) (tOp rAddI (tVar 3) (tC (.int 1))))) (gName 7)) tNext) (p1_law_drawn K E)
def p3_law_drawn (K : PySem.W.Frag) (E : XK) : TS :=
  tSeq (tIfS (tTest (tOp rEq (tOp rModI (tVar 5) (tC (.int 23))) (tC (.int 20)))) (tAsg (tVar 6) (gName 7)) tNext) (p2_law_drawn K E)
def p4_law_drawn (K : PySem.W.Frag) (E : XK) : TS :=
  tSeq (tAsg (tC .non) (gName 7)) (tSeq (tIfS (tAnd (tTest (tOp rLtI (tOp rModI (tVar 5) (tC (.int 4))) (tC (.int 3)))) (tTest (tOp rGtI (tCB (rLenL K) (tCons (tVar 1) tNil)) (tC (.int 0))))) (tAsg (tOp (rIxT K) (tOp (rIxL K) (tVar 1) (tOp rModI (tOp rDivI (tVar 5) (tC (.int 4))) (tCB (rLenL K) (tCons (tVar 1) tNil)))) (tC (.int 0))) (gName 7)) tNext) (p3_law_drawn K E))
def p5_law_drawn (K : PySem.W.Frag) (E : XK) : TS :=
  tSeq (tAsg (tCall (sp_law_cell_at K) [] E0 (tCons (tVar 0) (tCons (tOp rAddI (tC (.int 2)) (tOp rMulI (tC (.int 2)) (tVar 3))) tNil))) (gName 4)) (tSeq (tAsg (tCall (sp_law_cell_at K) [] E0 (tCons (tVar 0) (tCons (tOp rAddI (tC (.int 3)) (tOp rMulI (tC (.int 2)) (tVar 3))) tNil))) (gName 5)) (tSeq (tAsg (tOp rAddI (tVar 2) (tOp rMulI (tC (.int 997)) (tVar 3))) (gName 6)) (tSeq (tIfS (tAnd (tTest (tOp rEq (tOp rModI (tVar 4) (tC (.int 13))) (tC (.int 12)))) (tTest (tOp rGtI (tCB (rLenL K) (tCons (tVar 1) tNil)) (tC (.int 0))))) (tAsg (tOp (rIxT K) (tOp (rIxL K) (tVar 1) (tOp rModI (tOp rDivI (tVar 4) (tC (.int 13))) (tCB (rLenL K) (tCons (tVar 1) tNil)))) (tC (.int 0))) (gName 6)) tNext) (p4_law_drawn K E))))
def t_law_drawn (K : PySem.W.Frag) (E : XK) : TS :=
  tSeq (tAsg (tLst tNil) (gName 1)) (tSeq (tAsg (tOp rModI (tCall (sp_law_cell_at K) [] E0 (tCons (tVar 0) (tCons (tC (.int 1)) tNil))) (tC (.int 900000))) (gName 2)) (tSeq (tFor (iRng1 (tCons (tOp rModI (tCall (sp_law_cell_at K) [] E0 (tCons (tVar 0) (tCons (tC (.int 0)) tNil))) (tC (.int 13))) tNil)) (gName 3) (p5_law_drawn K E)) (tRet (tVar 1))))
abbrev n_law_drawn : List Str := ["script", "rows", "base", "k", "cell", "pick", "name", "over"]

theorem len_law_drawn (h : sp_law_drawn K vs H Q E) : vs.length = (["script"] : List Str).length := by
  obtain ⟨_, _, rfl, _⟩ := h
  rfl
theorem pure_law_drawn (K : PySem.W.Frag) (vs : List V) (H : Hp) (Q : VK) (E : XK) (h : sp_law_drawn K vs H Q E) : t_law_drawn K E { nx := fun _ H' => Q .non H', rt := Q } (start n_law_drawn vs) H := by
  obtain ⟨a, cs, rfl, hS, q⟩ := h
  unfold t_law_drawn
  walk_at "go"
  intro p hp
  walk_at "go"
  have s1 : Same H (upd H p (.lst [])) := same_new hp
  refine ⟨a, cs, 1, rfl, s1.seq hS, by decide, ?_⟩
  walk_at "go"
  obtain ⟨base, eb⟩ : ∃ base, base = cell cs 1 % 900000 := ⟨_, rfl⟩
  rw [← eb]
  refine g_forR1 ?_
  walk_at "go"
  refine ⟨a, cs, 0, rfl, s1.seq hS, by decide, ?_⟩
  walk_at "go"
  obtain ⟨n, en, hn⟩ : ∃ n : Nat, cell cs 0 % 13 = (n : Int) ∧ n ≤ 12 := ⟨(cell cs 0 % 13).toNat, by omega, by omega⟩
  rw [en]
  refine rng1_of (by omega) (by omega) ?_
  rw [Int.toNat_natCast]
  refine forR_run n (fun i σ H' => ∃ (w3 w4 w5 w6 w7 : Option V) (vs : List V) (R : Rc), σ = [some (.ref a), some (.ref p), some (.int base), w3, w4, w5, w6, w7] ∧ Same H H' ∧ H' p = some (.lst vs) ∧ RcAll H' (fun a => H a = none ∧ a ≠ p) vs R ∧ R.length = i ∧ Fig3 R) ?_ ?_ ⟨_, _, _, _, _, [], [], rfl, s1, upd_same, .nil, rfl, fun r hr => by cases hr⟩
  · rintro i σ H1 N hi ⟨w3, w4, w5, w6, w7, vs, R, rfl, s1, h1, d1, lR, f3⟩ hN
    have hvl := d1.len
    have hL := SqL.of (K := K) h1
    have L0 : ∀ (cl pk nm : Int) (o : Option Int) (D : Ends), D.nx = N → p0_law_drawn K E D [some (.ref a), some (.ref p), some (.int base), some (.int i), some (.int cl), some (.int pk), some (.int nm), some (oV o)] H1 := by
      intro cl pk nm o D hD
      unfold p0_law_drawn
      walk_at "go"
      refine ⟨ty_list hL, ?_⟩
      walk_at "go"
      refine ⟨_, rfl, fun k hk => ?_⟩
      walk_at "go"
      intro t ht
      walk_at "go"
      have s4 : Same H1 (upd H1 k (.lst (figs (cl % 1000)))) := same_new hk
      have s5 : Same (upd H1 k (.lst (figs (cl % 1000)))) (upd (upd H1 k (.lst (figs (cl % 1000)))) t (.tup [.int nm, oV o, .ref k])) := same_new ht
      have s35 := s4.trans s5
      have h5 := s35 _ _ h1
      refine g_append h5 (sz_lt (by omega)) ?_
      rw [hD]
      refine hN _ _ ⟨_, _, _, _, _, vs ++ [.ref t], R ++ [(nm, o, (fig (cl % 1000)).map some)], rfl, same_mut (s1.trans s35) hp, upd_same, ?_, by rw [List.length_append, List.length_singleton, lR], fun r hr => ?_⟩
      · exact ((d1.same s35).snoc (r := (nm, o, (fig (cl % 1000)).map some)) (t := t) (k := k) upd_same (s5 _ _ upd_same) ⟨s1.free hk, Ne.symm (ne_of_none h1 hk)⟩).upd h5 fun a h => h.2
      · rcases List.mem_append.mp hr with hr | hr
        · exact f3 r hr
        · rw [List.mem_singleton.mp hr] <;> rfl
    have L1 : ∀ (cl pk nm : Int) (o : Option Int) (D : Ends), D.nx = N → p1_law_drawn K E D [some (.ref a), some (.ref p), some (.int base), some (.int i), some (.int cl), some (.int pk), some (.int nm), some (oV o)] H1 := by
      intro cl pk nm o D hD
      unfold p1_law_drawn
      walk_at "go"
      refine g_iteD (fun h => ?_) (fun h => ?_)
      · walk_at "go"
        exact L0 cl pk nm (some _) _ hD
      · walk_at "nx"
        exact L0 cl pk nm o _ hD
    have L2' : ∀ (cl pk nm : Int) (o : Option Int) (D : Ends), D.nx = N → p2_law_drawn K E D [some (.ref a), some (.ref p), some (.int base), some (.int i), some (.int cl), some (.int pk), some (.int nm), some (oV o)] H1 := by
      intro cl pk nm o D hD
      unfold p2_law_drawn
      walk_at "go"
      refine g_iteD (fun h => ?_) (fun h => ?_)
      · walk_at "go"
        refine g_mul (.inl ⟨by decide, by decide⟩) ?_
        walk_at "go"
        exact L1 cl pk nm (some _) _ hD
      · walk_at "nx"
        exact L1 cl pk nm o _ hD
    have L3 : ∀ (cl pk nm : Int) (o : Option Int) (D : Ends), D.nx = N → p3_law_drawn K E D [some (.ref a), some (.ref p), some (.int base), some (.int i), some (.int cl), some (.int pk), some (.int nm), some (oV o)] H1 := by
      intro cl pk nm o D hD
      unfold p3_law_drawn
      walk_at "go"
      refine g_iteD (fun h => ?_) (fun h => ?_)
      · walk_at "go"
        exact L2' cl pk nm (some nm) _ hD
      · walk_at "nx"
        exact L2' cl pk nm o _ hD
    -- a name of a row
    have row : ∀ (c : Int) (Q : VK), 0 < (vs.length : Int) → (∀ x, Q (.int x) H1) → rIxL K (.ref p) (.int (c % (vs.length : Int))) H1 fun y H2 => tC (.int 0) [] H2 fun z H3 => rIxT K y z H3 Q := by
      intro c Q hv hq
      have hm : 0 ≤ c % (vs.length : Int) ∧ c % (vs.length : Int) < (vs.length : Int) := ⟨Int.emod_nonneg _ (by omega), Int.emod_lt_of_pos _ hv⟩
      obtain ⟨j, ej, hj⟩ : ∃ j : Nat, c % (vs.length : Int) = (j : Int) ∧ j < vs.length := ⟨(c % (vs.length : Int)).toNat, by omega, by omega⟩
      rw [ej]
      obtain ⟨t, k, ex, ht, _⟩ := d1.get (List.getElem?_eq_getElem (show j < R.length by omega))
      refine g_ixL hL (atI_nat ex) ?_
      walk_at "go"
      exact g_ixT (SqT.of ht) (show atI (rwV _ k) 0 = some (.int (R[j].1)) from rfl) (hq _)
    have L4 : ∀ (cl pk nm : Int) (w7 : Option V) (D : Ends), D.nx = N → p4_law_drawn K E D [some (.ref a), some (.ref p), some (.int base), some (.int i), some (.int cl), some (.int pk), some (.int nm), w7] H1 := by
      intro cl pk nm w7 D hD
      unfold p4_law_drawn
      walk_at "go"
      refine g_iteD (fun h => ?_) (fun h => ?_)
      · walk_at "go"
        refine g_lenL hL ?_
        walk_at "go"
        refine g_iteD (fun h2 => ?_) (fun h2 => ?_)
        · walk_at "go"
          refine g_lenL hL ?_
          walk_at "go"
          refine row (pk / 4) _ (by omega) fun x => ?_
          exact L3 cl pk nm (some x) _ hD
        · walk_at "nx"
          exact L3 cl pk nm none _ hD
      · walk_at "nx"
        exact L3 cl pk nm none _ hD
    walk_at "go"
    unfold p5_law_drawn
    walk_at "go"
    refine g_mul (.inl ⟨by decide, by decide⟩) ?_
    walk_at "go"
    refine ⟨a, cs, _, rfl, s1.seq hS, by omega, ?_⟩
    walk_at "go"
    refine g_mul (.inl ⟨by decide, by decide⟩) ?_
    walk_at "go"
    refine ⟨a, cs, _, rfl, s1.seq hS, by omega, ?_⟩
    walk_at "go"
    refine g_mul (.inl ⟨by decide, by decide⟩) ?_
    walk_at "go"
    refine g_iteD (fun h => ?_) (fun h => ?_)
    · walk_at "go"
      refine g_lenL hL ?_
      walk_at "go"
      refine g_iteD (fun h2 => ?_) (fun h2 => ?_)
      · walk_at "go"
        refine g_lenL hL ?_
        walk_at "go"
        refine row _ _ (by omega) fun x => ?_
        exact L4 _ _ x _ _ rfl
      · walk_at "nx"
        exact L4 _ _ _ _ _ rfl
    · walk_at "nx"
      exact L4 _ _ _ _ _ rfl
  · rintro σ H1 ⟨w3, w4, w5, w6, w7, vs, R, rfl, s1, h1, d1, lR, f3⟩
    walk_at "go"
    exact q R p H1 f3 (by omega) s1 ⟨vs, h1, hp, d1⟩
def sp_law (K : PySem.W.Frag) : Sp := fun vs H Q _ => ∃ (a : Addr) (ns : List Int), vs = [.ref a] ∧ SqL K H a (ns.map V.int) ∧ ns.length ≤ 63 ∧ ∀ H', Q (.bl true) H'
/-- law: slots script, rows, due, handed, found, way, kin, e -/
def p0_law (K : PySem.W.Frag) (E : XK) : TS :=
  tSeq (tDrop (tBM K "list" rAppend (tVar 4) (tCons (tC (.int 0)) tNil))) (tRet (tCall (sp_law_places K) [] E0 (tCons (tCall (sp_looked K) [] E0 (tCons (tVar 1) tNil)) (tCons (tVar 2) tNil))))
def p1_law (K : PySem.W.Frag) (E : XK) : TS :=
  tSeq (tIfS (tOr (tNot (tB (tCB (rIsi K) (tCons (tVar 2) (tCons (tC (.ty "list")) tNil))))) (tNot (tB (tCall (sp_law_places K) [] E0 (tCons (tVar 4) (tCons (tVar 2) tNil)))))) (tRet (tC (.bl false))) tNext) (p0_law K E)
def p2_law (K : PySem.W.Frag) (E : XK) : TS :=
  tSeq (tIfS (tTest (tOp rNe (tVar 5) (tC (.str "")))) (tRet (tOp rEq (tVar 5) (tVar 2))) tNext) (p1_law K E)
def p3_law (K : PySem.W.Frag) (E : XK) : TS :=
  tSeq (tIfS (tOr (tNot (tB (tCall (sp_law_rows K) [] E0 (tCons (tVar 3) (tCons (tVar 1) tNil))))) (tNot (tB (tVar 6)))) (tRet (tC (.bl false))) tNext) (p2_law K E)
def p4_law (K : PySem.W.Frag) (E : XK) : TS :=
  tSeq (tAsg (tCall (sp_law_drawn K) [] E0 (tCons (tVar 0) tNil)) (gName 1)) (tSeq (tAsg (tCall (sp_law_due K) [] E0 (tCons (tVar 1) tNil)) (gName 2)) (tSeq (tAsg (tCall (sp_law_copy K) [] E0 (tCons (tVar 1) tNil)) (gName 3)) (tSeq (tAsg (tC .non) (gName 4)) (tSeq (tAsg (tC (.str "")) (gName 5)) (tSeq (tAsg (tC (.bl true)) (gName 6)) (tSeq (tTryMA K [((Value.ref (He.ga K "Taken")), 7, fun a cls d => tSeq (tAsg (tC (.str "taken")) (gName 5)) (tAsg (tAndV (tCB (rIsX K cls d a) (tCons (tVar 7) (tCons (tC (.ref (He.ga K "CordError"))) tNil))) (tNotV (tCB (rIsX K cls d a) (tCons (tVar 7) (tCons (tC (.ref (He.ga K "NoCord"))) tNil))))) (gName 6))), ((Value.ref (He.ga K "NoCord")), 7, fun a cls d => tSeq (tAsg (tC (.str "no cord")) (gName 5)) (tAsg (tCB (rIsX K cls d a) (tCons (tVar 7) (tCons (tC (.ref (He.ga K "CordError"))) tNil))) (gName 6)))] (fun W => tAsg (tCallS (sp_looked K) (WE W) (tCons (tVar 3) tNil)) (gName 4))) (p3_law K E)))))))
def t_law (K : PySem.W.Frag) (E : XK) : TS :=
  tSeq (tIfS (tNot (tB (tCall (sp_law_empty K) [] E0 (tCons (tOp rModI (tCall (sp_law_cell_at K) [] E0 (tCons (tVar 0) (tCons (tC (.int 1)) tNil))) (tC (.int 1000000))) tNil)))) (tRet (tC (.bl false))) tNext) (p4_law K E)
abbrev n_law : List Str := ["script", "rows", "due", "handed", "found", "way", "kin", "e"]

theorem len_law (h : sp_law K vs H Q E) : vs.length = (["script"] : List Str).length := by
  obtain ⟨_, _, rfl, _⟩ := h
  rfl
theorem lookF_len : ∀ {R : Rc} {ns : List Int} {ov : List (Option Int)}, lookF ns R = .ok ov → ov.length = R.length
  | [], _, _, h => by cases h; rfl
  | r :: rs, ns, ov, h => by
    unfold lookF at h
    split at h
    · cases h
    · split at h
      · cases e : lookF (ns ++ [r.1]) rs with
        | error x => rw [e] at h; cases h
        | ok l => rw [e] at h; cases h; rw [List.length_cons, List.length_cons, lookF_len e]
      · split at h
        · cases h
        · cases e : lookF (ns ++ [r.1]) rs with
          | error x => rw [e] at h; cases h
          | ok l => rw [e] at h; cases h; rw [List.length_cons, List.length_cons, lookF_len e]
theorem pure_law (K : PySem.W.Frag) (x1 : Exm K "Taken" "Taken" true) (x2 : Exm K "NoCord" "Taken" false) (x3 : Exm K "NoCord" "NoCord" true) (c1 : ExcC K (He.ga K "Taken")) (c2 : ExcC K (He.ga K "NoCord"))
    (k1 : Kit K "Taken" "CordError" true) (k2 : Kit K "Taken" "NoCord" false) (k3 : Kit K "NoCord" "CordError" true)
    (vs : List V) (H : Hp) (Q : VK) (E : XK) (h : sp_law K vs H Q E) : t_law K E { nx := fun _ H' => Q .non H', rt := Q } (start n_law vs) H := by
  obtain ⟨a, cs, rfl, hS, hl, q⟩ := h
  unfold t_law
  walk_at "go"
  refine ⟨a, cs, 1, rfl, hS, by decide, ?_⟩
  walk_at "go"
  refine ⟨_, rfl, fun H0 s0 => ?_⟩
  have S0 := s0.seq hS
  walk_at "go"
  unfold p4_law
  walk_at "go"
  refine ⟨a, cs, rfl, S0, fun R pr H1 f3 hR s1 d1 => ?_⟩
  have d1 := d1.at
  walk_at "go"
  cases el : lookB R with
  | ok ov =>
    have hov : ov.length = R.length := lookF_len el
    refine ⟨pr, R, _, rfl, d1, by omega, fun ov' pd H2 e s2 _ h2 => ?_, fun x H' e => by (rw [el] at e; cases e)⟩
    rw [el] at e
    cases e
    walk_at "go"
    refine ⟨pr, R, _, rfl, d1.same s2, by omega, fun pc H3 s3 d3 => ?_⟩
    have d3 := d3.at
    walk_at "go"
    refine g_tryMA ?_
    walk_at "go"
    refine ⟨pc, R, _, rfl, d3, by omega, fun ov' pf H4 e s4 hpf h4 => ?_, fun x H' e => by (rw [el] at e; cases e)⟩
    rw [el] at e
    cases e
    walk_at "go"
    unfold p3_law
    walk_at "go"
    refine ⟨pc, pr, R, _, _, rfl, d3.same s4, ((d1.same s2).same s3).same s4, f3, fun H5 s5 => ?_⟩
    walk_at "go"
    unfold p2_law
    walk_at "go"
    refine dec_NT rfl ?_
    walk_at "nx"
    unfold p1_law
    walk_at "go"
    have h25 := (s3.trans s4).trans s5
    have hd5 := h25 _ _ h2
    have hf5 := s5 _ _ h4
    refine g_isi (b := true) (tx_lst hd5) (show L2.kitB "list" "list" = some true by decide +kernel) ?_
    walk_at "go"
    refine ⟨pf, pd, ov, rfl, hf5, SqL.of hd5, by omega, ?_⟩
    walk_at "go"
    unfold p0_law
    walk_at "go"
    refine ⟨ty_list (SqL.of hf5), ?_⟩
    walk_at "go"
    refine g_append hf5 (sz_lt (by rw [List.length_map]; omega)) ?_
    walk_at "go"
    have nfd : pd ≠ pf := ne_of_none (s3 _ _ h2) hpf
    have s6 := same_mut (o := .lst (ov.map oV ++ [V.int 0])) (s4.trans s5) hpf
    refine ⟨pr, R, _, rfl, ((d1.same s2).same s3).same s6, by omega, fun ov' pg H7 e s7 _ h7 => ?_, fun x H' e => by (rw [el] at e; cases e)⟩
    rw [el] at e
    cases e
    walk_at "go"
    exact ⟨pg, pd, ov, rfl, h7, SqL.of (s7 _ _ (s6 _ _ (s3 _ _ h2))), by omega, q _⟩
  | error x =>
    refine ⟨pr, R, _, rfl, d1, by omega, fun ov' pd H2 e => by (rw [el] at e; cases e), fun y H2 e s2 => ?_⟩
    rw [el] at e
    cases e
    walk_at "go"
    refine ⟨pr, R, _, rfl, d1.same s2, by omega, fun pc H3 s3 d3 => ?_⟩
    have d3 := d3.at
    walk_at "go"
    refine g_tryMA ?_
    walk_at "go"
    have fin : ∀ (dw : Str) (D : Ends) (H4 : Hp), D.rt = Q → dw = "taken" ∨ dw = "no cord" → Same H3 H4 → p3_law K E D [some (.ref a), some (.ref pr), some (.str dw), some (.ref pc), some .non, some (.str dw), some (.bl true), none] H4 := by
      intro dw D H4 hD hdw s4
      unfold p3_law
      walk_at "go"
      refine ⟨pc, pr, R, _, _, rfl, d3.same s4, ((d1.same s2).same s3).same s4, f3, fun H5 s5 => ?_⟩
      walk_at "go"
      unfold p2_law
      walk_at "go"
      refine dec_NF (by rcases hdw with rfl | rfl <;> decide) ?_
      walk_at "go"
      rw [decide_eq_true rfl, hD]
      exact q _
    refine ⟨pc, R, _, rfl, d3, by omega, fun ov' pf H4 e => by (rw [el] at e; cases e), fun y H4 e s4 => ?_⟩
    rw [el] at e
    cases e
    rcases lookF_err el with rfl | rfl
    · rw [if_pos rfl]
      refine wmanyA_hit x1 fun a ha => ?_
      walk_at "go"
      refine g_isX c1 k1 ?_
      walk_at "go"
      refine g_isX c1 k2 ?_
      walk_at "go"
      exact fin "taken" _ H4 rfl (.inl rfl) s4
    · rw [if_neg (show ¬ ("NoCord" : String) = "Taken" by decide)]
      refine wmanyA_skip x2 (wmanyA_hit x3 fun a ha => ?_)
      walk_at "go"
      refine g_isX c2 k3 ?_
      walk_at "go"
      exact fin "no cord" _ H4 rfl (.inr rfl) s4
end
end Cor

/-! ### law k16: the text by places, the facts, each def over its pure part (printed by gen_law.py) -/
namespace K16
open PySem PySem.Spec PyProof.Rows L2 Cor
def top (i : Nat) : Stmt := PySem.Challenge.pw_cordkeep_k16_records_looked_through.main.body.getD i (.Pass ⟨0, 0, 0, 0⟩)
abbrev s_law_cell_at : Stmt := top 28
abbrev s_law_copy : Stmt := top 33
abbrev s_law_figures : Stmt := top 30
abbrev s_law_drawn : Stmt := top 34
abbrev s_law_due : Stmt := top 35
abbrev s_figures : Stmt := top 8
abbrev s_fixed : Stmt := top 23
abbrev s_sums : Stmt := top 14
abbrev s_without : Stmt := top 19
abbrev s_beside : Stmt := top 20
abbrev s_fits : Stmt := top 9
abbrev s_ways : Stmt := top 13
abbrev s_from_below : Stmt := top 16
abbrev s_hanging : Stmt := top 15
abbrev s_looked : Stmt := top 11
abbrev s_marked : Stmt := top 17
abbrev s_meets : Stmt := top 18
abbrev s_numbers : Stmt := top 21
abbrev s_first : Stmt := top 24
abbrev s_filling : Stmt := top 25
abbrev s_told : Stmt := top 22
abbrev s_mended : Stmt := top 26
abbrev s_law_empty : Stmt := top 37
abbrev s_law_whole : Stmt := top 29
abbrev s_law_places : Stmt := top 36
abbrev s_law_knots : Stmt := top 31
abbrev s_law_rows : Stmt := top 32
abbrev s_law : Stmt := top 38
theorem sc_law_cell_at : FnScope ["script", "k"] ["script", "k"] (defScope s_law_cell_at) := ⟨rfl, rfl, rfl, by decide +kernel, rfl, by decide +kernel, by decide +kernel⟩
theorem sc_law_copy : FnScope ["record", "row"] ["record"] (defScope s_law_copy) := ⟨rfl, rfl, rfl, by decide +kernel, rfl, by decide +kernel, by decide +kernel⟩
theorem sc_law_figures : FnScope ["number"] ["number"] (defScope s_law_figures) := ⟨rfl, rfl, rfl, by decide +kernel, rfl, by decide +kernel, by decide +kernel⟩
theorem sc_law_drawn : FnScope ["script", "rows", "base", "k", "cell", "pick", "name", "over"] ["script"] (defScope s_law_drawn) := ⟨rfl, rfl, rfl, by decide +kernel, rfl, by decide +kernel, by decide +kernel⟩
theorem sc_law_due : FnScope ["rows", "names", "found", "row"] ["rows"] (defScope s_law_due) := ⟨rfl, rfl, rfl, by decide +kernel, rfl, by decide +kernel, by decide +kernel⟩
theorem sc_figures : FnScope ["number"] ["number"] (defScope s_figures) := ⟨rfl, rfl, rfl, by decide +kernel, rfl, by decide +kernel, by decide +kernel⟩
theorem sc_fixed : FnScope ["record", "place", "number", "made", "row"] ["record", "place", "number"] (defScope s_fixed) := ⟨rfl, rfl, rfl, by decide +kernel, rfl, by decide +kernel, by decide +kernel⟩
theorem sc_sums : FnScope ["many", "found", "row", "seen", "number", "other"] ["many"] (defScope s_sums) := ⟨rfl, rfl, rfl, by decide +kernel, rfl, by decide +kernel, by decide +kernel⟩
theorem sc_without : FnScope ["rows", "ahead", "row", "found", "behind", "back", "place"] ["rows"] (defScope s_without) := ⟨rfl, rfl, rfl, by decide +kernel, rfl, by decide +kernel, by decide +kernel⟩
theorem sc_beside : FnScope ["kids", "below", "found", "row", "those", "parts", "kid", "part"] ["kids", "below"] (defScope s_beside) := ⟨rfl, rfl, rfl, by decide +kernel, rfl, by decide +kernel, by decide +kernel⟩
theorem sc_fits : FnScope ["number", "knots", "own", "place"] ["number", "knots"] (defScope s_fits) := ⟨rfl, rfl, rfl, by decide +kernel, rfl, by decide +kernel, by decide +kernel⟩
theorem sc_ways : FnScope ["knots", "found", "figure", "longer", "number", "last"] ["knots"] (defScope s_ways) := ⟨rfl, rfl, rfl, by decide +kernel, rfl, by decide +kernel, by decide +kernel⟩
theorem sc_from_below : FnScope ["record", "kids", "found", "row", "back", "place", "knots", "total", "kid", "number"] ["record", "kids"] (defScope s_from_below) := ⟨rfl, rfl, rfl, by decide +kernel, rfl, by decide +kernel, by decide +kernel⟩
theorem sc_hanging : FnScope ["overs", "found", "over", "place"] ["overs"] (defScope s_hanging) := ⟨rfl, rfl, rfl, by decide +kernel, rfl, by decide +kernel, by decide +kernel⟩
theorem sc_looked : FnScope ["record", "places", "found", "row"] ["record"] (defScope s_looked) := ⟨rfl, rfl, rfl, by decide +kernel, rfl, by decide +kernel, by decide +kernel⟩
theorem sc_marked : FnScope ["row", "found", "number"] ["row"] (defScope s_marked) := ⟨rfl, rfl, rfl, by decide +kernel, rfl, by decide +kernel, by decide +kernel⟩
theorem sc_meets : FnScope ["number", "others", "whole", "other"] ["number", "others", "whole"] (defScope s_meets) := ⟨rfl, rfl, rfl, by decide +kernel, rfl, by decide +kernel, by decide +kernel⟩
theorem sc_numbers : FnScope ["record", "overs", "kids", "below", "others", "found", "place", "whole", "number"] ["record"] (defScope s_numbers) := ⟨rfl, rfl, rfl, by decide +kernel, rfl, by decide +kernel, by decide +kernel⟩
theorem sc_first : FnScope ["record", "made", "found", "place", "row"] ["record"] (defScope s_first) := ⟨rfl, rfl, rfl, by decide +kernel, rfl, by decide +kernel, by decide +kernel⟩
theorem sc_filling : FnScope ["record", "name", "number", "found", "place"] ["record", "name", "number"] (defScope s_filling) := ⟨rfl, rfl, rfl, by decide +kernel, rfl, by decide +kernel, by decide +kernel⟩
theorem sc_told : FnScope ["record", "found", "row", "number", "place"] ["record"] (defScope s_told) := ⟨rfl, rfl, rfl, by decide +kernel, rfl, by decide +kernel, by decide +kernel⟩
theorem sc_mended : FnScope ["record", "made", "place", "options", "row", "knots", "k"] ["record"] (defScope s_mended) := ⟨rfl, rfl, rfl, by decide +kernel, rfl, by decide +kernel, by decide +kernel⟩
theorem sc_law_empty : FnScope ["name", "way"] ["name"] (defScope s_law_empty) := ⟨rfl, rfl, rfl, by decide +kernel, rfl, by decide +kernel, by decide +kernel⟩
theorem sc_law_whole : FnScope ["found"] ["found"] (defScope s_law_whole) := ⟨rfl, rfl, rfl, by decide +kernel, rfl, by decide +kernel, by decide +kernel⟩
theorem sc_law_places : FnScope ["found", "due", "k"] ["found", "due"] (defScope s_law_places) := ⟨rfl, rfl, rfl, by decide +kernel, rfl, by decide +kernel, by decide +kernel⟩
theorem sc_law_knots : FnScope ["found", "due", "k"] ["found", "due"] (defScope s_law_knots) := ⟨rfl, rfl, rfl, by decide +kernel, rfl, by decide +kernel, by decide +kernel⟩
theorem sc_law_rows : FnScope ["found", "due", "row", "own"] ["found", "due"] (defScope s_law_rows) := ⟨rfl, rfl, rfl, by decide +kernel, rfl, by decide +kernel, by decide +kernel⟩
theorem sc_law : FnScope ["script", "rows", "due", "handed", "found", "way", "kin", "e"] ["script"] (defScope s_law) := ⟨rfl, rfl, rfl, by decide +kernel, rfl, by decide +kernel, by decide +kernel⟩
structure Txt (K : PySem.W.Frag) (mg : Str → Option Value) : Prop where
  d_law_cell_at : DefAt K (("_law_cell_at" : Str), (none : Option Str)) "_law_cell_at" "_law_cell_at" s_law_cell_at ["script", "k"]
  g_law_cell_at : mg "_law_cell_at" = some (.ref (He.ga K "_law_cell_at"))
  d_law_copy : DefAt K (("_law_copy" : Str), (none : Option Str)) "_law_copy" "_law_copy" s_law_copy ["record"]
  g_law_copy : mg "_law_copy" = some (.ref (He.ga K "_law_copy"))
  d_law_figures : DefAt K (("_law_figures" : Str), (none : Option Str)) "_law_figures" "_law_figures" s_law_figures ["number"]
  g_law_figures : mg "_law_figures" = some (.ref (He.ga K "_law_figures"))
  d_law_drawn : DefAt K (("_law_drawn" : Str), (none : Option Str)) "_law_drawn" "_law_drawn" s_law_drawn ["script"]
  g_law_drawn : mg "_law_drawn" = some (.ref (He.ga K "_law_drawn"))
  d_law_due : DefAt K (("_law_due" : Str), (none : Option Str)) "_law_due" "_law_due" s_law_due ["rows"]
  g_law_due : mg "_law_due" = some (.ref (He.ga K "_law_due"))
  d_figures : DefAt K (("figures" : Str), (none : Option Str)) "figures" "figures" s_figures ["number"]
  g_figures : mg "figures" = some (.ref (He.ga K "figures"))
  d_fixed : DefAt K (("fixed" : Str), (none : Option Str)) "fixed" "fixed" s_fixed ["record", "place", "number"]
  g_fixed : mg "fixed" = some (.ref (He.ga K "fixed"))
  d_sums : DefAt K (("sums" : Str), (none : Option Str)) "sums" "sums" s_sums ["many"]
  g_sums : mg "sums" = some (.ref (He.ga K "sums"))
  d_without : DefAt K (("without" : Str), (none : Option Str)) "without" "without" s_without ["rows"]
  g_without : mg "without" = some (.ref (He.ga K "without"))
  d_beside : DefAt K (("beside" : Str), (none : Option Str)) "beside" "beside" s_beside ["kids", "below"]
  g_beside : mg "beside" = some (.ref (He.ga K "beside"))
  d_fits : DefAt K (("fits" : Str), (none : Option Str)) "fits" "fits" s_fits ["number", "knots"]
  g_fits : mg "fits" = some (.ref (He.ga K "fits"))
  d_ways : DefAt K (("ways" : Str), (none : Option Str)) "ways" "ways" s_ways ["knots"]
  g_ways : mg "ways" = some (.ref (He.ga K "ways"))
  d_from_below : DefAt K (("from_below" : Str), (none : Option Str)) "from_below" "from_below" s_from_below ["record", "kids"]
  g_from_below : mg "from_below" = some (.ref (He.ga K "from_below"))
  d_hanging : DefAt K (("hanging" : Str), (none : Option Str)) "hanging" "hanging" s_hanging ["overs"]
  g_hanging : mg "hanging" = some (.ref (He.ga K "hanging"))
  d_looked : DefAt K (("looked" : Str), (none : Option Str)) "looked" "looked" s_looked ["record"]
  g_looked : mg "looked" = some (.ref (He.ga K "looked"))
  d_marked : DefAt K (("marked" : Str), (none : Option Str)) "marked" "marked" s_marked ["row"]
  g_marked : mg "marked" = some (.ref (He.ga K "marked"))
  d_meets : DefAt K (("meets" : Str), (none : Option Str)) "meets" "meets" s_meets ["number", "others", "whole"]
  g_meets : mg "meets" = some (.ref (He.ga K "meets"))
  d_numbers : DefAt K (("numbers" : Str), (none : Option Str)) "numbers" "numbers" s_numbers ["record"]
  g_numbers : mg "numbers" = some (.ref (He.ga K "numbers"))
  d_first : DefAt K (("first" : Str), (none : Option Str)) "first" "first" s_first ["record"]
  g_first : mg "first" = some (.ref (He.ga K "first"))
  d_filling : DefAt K (("filling" : Str), (none : Option Str)) "filling" "filling" s_filling ["record", "name", "number"]
  g_filling : mg "filling" = some (.ref (He.ga K "filling"))
  d_told : DefAt K (("told" : Str), (none : Option Str)) "told" "told" s_told ["record"]
  g_told : mg "told" = some (.ref (He.ga K "told"))
  d_mended : DefAt K (("mended" : Str), (none : Option Str)) "mended" "mended" s_mended ["record"]
  g_mended : mg "mended" = some (.ref (He.ga K "mended"))
  d_law_empty : DefAt K (("_law_empty" : Str), (none : Option Str)) "_law_empty" "_law_empty" s_law_empty ["name"]
  g_law_empty : mg "_law_empty" = some (.ref (He.ga K "_law_empty"))
  d_law_whole : DefAt K (("_law_whole" : Str), (none : Option Str)) "_law_whole" "_law_whole" s_law_whole ["found"]
  g_law_whole : mg "_law_whole" = some (.ref (He.ga K "_law_whole"))
  d_law_places : DefAt K (("_law_places" : Str), (none : Option Str)) "_law_places" "_law_places" s_law_places ["found", "due"]
  g_law_places : mg "_law_places" = some (.ref (He.ga K "_law_places"))
  d_law_knots : DefAt K (("_law_knots" : Str), (none : Option Str)) "_law_knots" "_law_knots" s_law_knots ["found", "due"]
  g_law_knots : mg "_law_knots" = some (.ref (He.ga K "_law_knots"))
  d_law_rows : DefAt K (("_law_rows" : Str), (none : Option Str)) "_law_rows" "_law_rows" s_law_rows ["found", "due"]
  g_law_rows : mg "_law_rows" = some (.ref (He.ga K "_law_rows"))
  d_law : DefAt K (("law" : Str), (none : Option Str)) "law" "law" s_law ["script"]
  g_law : mg "law" = some (.ref (He.ga K "law"))
  x_CordError : ExcAt K mg "CordError"
  x_Frayed : ExcAt K mg "Frayed"
  x_NoCord : ExcAt K mg "NoCord"
  x_NoWay : ExcAt K mg "NoWay"
  x_Taken : ExcAt K mg "Taken"
  g_MOST : ∃ t, mg "MOST" = some (.int 999 t)
  n_bool : mg "bool" = none
  n_enumerate : mg "enumerate" = none
  n_int : mg "int" = none
  n_isinstance : mg "isinstance" = none
  n_len : mg "len" = none
  n_list : mg "list" = none
  n_range : mg "range" = none
  n_reversed : mg "reversed" = none
  n_set : mg "set" = none
  n_sorted : mg "sorted" = none
  n_tuple : mg "tuple" = none
  n_zip : mg "zip" = none
  e_NoCord_NoCord : Exm K "NoCord" "NoCord" true
  e_Taken_Taken : Exm K "Taken" "Taken" true
  e_NoCord_Taken : Exm K "NoCord" "Taken" false
  c_Taken : ExcC K (He.ga K "Taken")
  c_NoCord : ExcC K (He.ga K "NoCord")
  k_Taken_CordError : Kit K "Taken" "CordError" true
  k_Taken_NoCord : Kit K "Taken" "NoCord" false
  k_NoCord_CordError : Kit K "NoCord" "CordError" true
section
variable {P : Program} {w : World} {K : PySem.W.Frag} {mg : Str → Option Value} {base : Heap}
theorem ok_law_cell_at (T : Txt K mg) : FnOk P w K mg base CX0 1 (He.ga K "_law_cell_at") (fdAt K (("_law_cell_at" : Str), (none : Option Str))) ["script", "k"] (sp_law_cell_at K) := by
  refine (T.d_law_cell_at.F.ok sc_law_cell_at (fun vs H Q E h => len_law_cell_at h) (fun cdv A outer s H vs Q E hr h => ⟨t_law_cell_at K E, PSs.nox ?_, pure_law_cell_at K vs H Q E h⟩) : FnOk P w K mg base CX0 (0 + 1) _ _ _ _)
  have hu := hu_of hr
  exact (pss_cons (ps_if (pt_cmpR op_lt (pv 1) (pe_callB call_len_seq (by rfl) T.n_len (by decide +kernel) (pa_cons (pv 0) pa_nil)) (nomark _)) (pss_one (ps_ret (pe_ix ix_list (pv 0) (pv 1) (fun _ _ => rfl)))) pss_nil)
    (pss_one (ps_ret pe_int)))
theorem ok_law_copy (T : Txt K mg) : FnOk P w K mg base CX0 1 (He.ga K "_law_copy") (fdAt K (("_law_copy" : Str), (none : Option Str))) ["record"] (sp_law_copy K) := by
  refine (T.d_law_copy.F.ok sc_law_copy (fun vs H Q E h => len_law_copy h) (fun cdv A outer s H vs Q E hr h => ⟨t_law_copy K E, PSs.nox ?_, pure_law_copy K vs H Q E h⟩) : FnOk P w K mg base CX0 (0 + 1) _ _ _ _)
  have hu := hu_of hr
  exact (pss_one (ps_ret (pe_lc (own := [("row", 1)]) (by rfl) sc_law_copy.nd (pi_list (pv 0)) (blkOk_by (own := [("row", 1)]) (N := ["record", "row"]) (sc := defScope s_law_copy) (by decide +kernel)) (fun _ _ _ _ _ => (pg_name (i := 1) sc_law_copy.nd rfl (by first | exact Or.inl rfl | exact Or.inr rfl))) (fun _ _ _ _ _ => pts_nil) (fun _ _ _ _ _ => (pe_tup (pa_cons (pe_ix ix_tup (pv 1) pe_int (fun _ _ => rfl)) (pa_cons (pe_ix ix_tup (pv 1) pe_int (fun _ _ => rfl)) (pa_cons (pe_callTy call_list_of (by rfl) T.n_list (by decide +kernel) (pa_cons (pe_ix ix_tup (pv 1) pe_int (fun _ _ => rfl)) pa_nil)) pa_nil))))))))
theorem ok_law_figures (T : Txt K mg) : FnOk P w K mg base CX0 1 (He.ga K "_law_figures") (fdAt K (("_law_figures" : Str), (none : Option Str))) ["number"] (sp_law_figures K) := by
  refine (T.d_law_figures.F.ok sc_law_figures (fun vs H Q E h => len_law_figures h) (fun cdv A outer s H vs Q E hr h => ⟨t_law_figures K E, PSs.nox ?_, pure_law_figures K vs H Q E h⟩) : FnOk P w K mg base CX0 (0 + 1) _ _ _ _)
  have hu := hu_of hr
  exact (pss_one (ps_ret (pe_lst (pa_cons (pe_op op_fdiv (pv 0) pe_int) (pa_cons (pe_op op_mod (pe_op op_fdiv (pv 0) pe_int) pe_int) (pa_cons (pe_op op_mod (pv 0) pe_int) pa_nil))))))
theorem ok_law_drawn (T : Txt K mg) : FnOk P w K mg base CX0 2 (He.ga K "_law_drawn") (fdAt K (("_law_drawn" : Str), (none : Option Str))) ["script"] (sp_law_drawn K) := by
  refine (T.d_law_drawn.F.ok sc_law_drawn (fun vs H Q E h => len_law_drawn h) (fun cdv A outer s H vs Q E hr h => ⟨t_law_drawn K E, PSs.nox ?_, pure_law_drawn K vs H Q E h⟩) : FnOk P w K mg base CX0 (1 + 1) _ _ _ _)
  have hu := hu_of hr
  exact (pss_cons (ps_set (i := 1) sc_law_drawn.nd rfl (by first | exact Or.inl rfl | exact Or.inr rfl) (pe_lst pa_nil))
    (pss_cons (ps_set (i := 2) sc_law_drawn.nd rfl (by first | exact Or.inl rfl | exact Or.inr rfl) (pe_op op_mod (pe_call (ok_law_cell_at T) (hr.mono (by decide)) rfl T.g_law_cell_at T.d_law_cell_at.F.kp T.d_law_cell_at.b .nil pass0 (pa_cons (pv 0) (pa_cons pe_int pa_nil))) pe_int))
    (pss_cons (ps_for PassesOwn.never rfl (pi_range1 (by rfl) T.n_range (pa_cons (pe_op op_mod (pe_call (ok_law_cell_at T) (hr.mono (by decide)) rfl T.g_law_cell_at T.d_law_cell_at.F.kp T.d_law_cell_at.b .nil pass0 (pa_cons (pv 0) (pa_cons pe_int pa_nil))) pe_int) pa_nil)) (pg_name (i := 3) sc_law_drawn.nd rfl (by first | exact Or.inl rfl | exact Or.inr rfl)) (pss_cons (ps_set (i := 4) sc_law_drawn.nd rfl (by first | exact Or.inl rfl | exact Or.inr rfl) (pe_call (ok_law_cell_at T) (hr.mono (by decide)) rfl T.g_law_cell_at T.d_law_cell_at.F.kp T.d_law_cell_at.b .nil pass0 (pa_cons (pv 0) (pa_cons (pe_op op_add pe_int (pe_op op_mul pe_int (pv 3))) pa_nil))))
    (pss_cons (ps_set (i := 5) sc_law_drawn.nd rfl (by first | exact Or.inl rfl | exact Or.inr rfl) (pe_call (ok_law_cell_at T) (hr.mono (by decide)) rfl T.g_law_cell_at T.d_law_cell_at.F.kp T.d_law_cell_at.b .nil pass0 (pa_cons (pv 0) (pa_cons (pe_op op_add pe_int (pe_op op_mul pe_int (pv 3))) pa_nil))))
    (pss_cons (ps_set (i := 6) sc_law_drawn.nd rfl (by first | exact Or.inl rfl | exact Or.inr rfl) (pe_op op_add (pv 2) (pe_op op_mul pe_int (pv 3))))
    (pss_cons (ps_if (PW.pt (pw_and (pt_cmpR op_eq (pe_op op_mod (pv 4) pe_int) pe_int (nomark _)) (pw_and1 (pt_cmpR op_gt (pe_callB call_len_seq (by rfl) T.n_len (by decide +kernel) (pa_cons (pv 1) pa_nil)) pe_int (nomark _))))) (pss_one (ps_set (i := 6) sc_law_drawn.nd rfl (by first | exact Or.inl rfl | exact Or.inr rfl) (pe_ix ix_tup (pe_ix ix_list (pv 1) (pe_op op_mod (pe_op op_fdiv (pv 4) pe_int) (pe_callB call_len_seq (by rfl) T.n_len (by decide +kernel) (pa_cons (pv 1) pa_nil))) (fun _ _ => rfl)) pe_int (fun _ _ => rfl)))) pss_nil)
    (pss_cons (ps_set (i := 7) sc_law_drawn.nd rfl (by first | exact Or.inl rfl | exact Or.inr rfl) pe_non)
    (pss_cons (ps_if (PW.pt (pw_and (pt_cmpR op_lt (pe_op op_mod (pv 5) pe_int) pe_int (nomark _)) (pw_and1 (pt_cmpR op_gt (pe_callB call_len_seq (by rfl) T.n_len (by decide +kernel) (pa_cons (pv 1) pa_nil)) pe_int (nomark _))))) (pss_one (ps_set (i := 7) sc_law_drawn.nd rfl (by first | exact Or.inl rfl | exact Or.inr rfl) (pe_ix ix_tup (pe_ix ix_list (pv 1) (pe_op op_mod (pe_op op_fdiv (pv 5) pe_int) (pe_callB call_len_seq (by rfl) T.n_len (by decide +kernel) (pa_cons (pv 1) pa_nil))) (fun _ _ => rfl)) pe_int (fun _ _ => rfl)))) pss_nil)
    (pss_cons (ps_if (pt_cmpR op_eq (pe_op op_mod (pv 5) pe_int) pe_int (nomark _)) (pss_one (ps_set (i := 7) sc_law_drawn.nd rfl (by first | exact Or.inl rfl | exact Or.inr rfl) (pv 6))) pss_nil)
    (pss_cons (ps_if (pt_cmpR op_eq (pe_op op_mod (pv 5) pe_int) pe_int (nomark _)) (pss_one (ps_set (i := 7) sc_law_drawn.nd rfl (by first | exact Or.inl rfl | exact Or.inr rfl) (pe_op op_add (pv 2) (pe_op op_mul pe_int (pe_op op_add (pv 3) pe_int))))) pss_nil)
    (pss_cons (ps_if (pt_cmpR op_eq (pe_op op_mod (pv 5) pe_int) pe_int (nomark _)) (pss_one (ps_set (i := 7) sc_law_drawn.nd rfl (by first | exact Or.inl rfl | exact Or.inr rfl) (pe_op op_mod (pe_op op_add (pv 2) pe_int) pe_int))) pss_nil)
    (pss_one (ps_expr (pe_bm PySem.F.plainAttrs_list PySem.F.slot_list_append PySem.F.type_list_append mt_append (pv 1) (pa_cons (pe_tup (pa_cons (pv 6) (pa_cons (pv 7) (pa_cons (pe_call (ok_law_figures T) (hr.mono (by decide)) rfl T.g_law_figures T.d_law_figures.F.kp T.d_law_figures.b .nil pass0 (pa_cons (pe_op op_mod (pv 4) pe_int) pa_nil)) pa_nil)))) pa_nil))))))))))))))
    (pss_one (ps_ret (pv 1))))))
theorem ok_law_due (T : Txt K mg) : FnOk P w K mg base CX0 1 (He.ga K "_law_due") (fdAt K (("_law_due" : Str), (none : Option Str))) ["rows"] (sp_law_due K) := by
  refine (T.d_law_due.F.ok sc_law_due (fun vs H Q E h => len_law_due h) (fun cdv A outer s H vs Q E hr h => ⟨t_law_due K E, PSs.nox ?_, pure_law_due K vs H Q E h⟩) : FnOk P w K mg base CX0 (0 + 1) _ _ _ _)
  have hu := hu_of hr
  exact (pss_cons (ps_set (i := 1) sc_law_due.nd rfl (by first | exact Or.inl rfl | exact Or.inr rfl) (pe_lst pa_nil))
    (pss_cons (ps_set (i := 2) sc_law_due.nd rfl (by first | exact Or.inl rfl | exact Or.inr rfl) (pe_lst pa_nil))
    (pss_cons (ps_for PassesOwn.never rfl (pi_list (pv 0)) (pg_name (i := 3) sc_law_due.nd rfl (by first | exact Or.inl rfl | exact Or.inr rfl)) (pss_cons (ps_if (pt_cmpR op_in_seq (pe_ix ix_tup (pv 3) pe_int (fun _ _ => rfl)) (pv 1) (by with_unfolding_all rfl)) (pss_one (ps_ret pe_str)) pss_nil)
    (pss_cons (ps_if (pt_cmpR op_isN (pe_ix ix_tup (pv 3) pe_int (fun _ _ => rfl)) pe_non (nomark _)) (pss_one (ps_expr (pe_bm PySem.F.plainAttrs_list PySem.F.slot_list_append PySem.F.type_list_append mt_append (pv 2) (pa_cons pe_non pa_nil)))) (pss_one (ps_if (pt_cmpR op_in_seq (pe_ix ix_tup (pv 3) pe_int (fun _ _ => rfl)) (pv 1) (by with_unfolding_all rfl)) (pss_one (ps_expr (pe_bm PySem.F.plainAttrs_list PySem.F.slot_list_append PySem.F.type_list_append mt_append (pv 2) (pa_cons (pe_bm PySem.F.plainAttrs_list PySem.F.slot_list_index PySem.F.type_list_index mt_index (pv 1) (pa_cons (pe_ix ix_tup (pv 3) pe_int (fun _ _ => rfl)) pa_nil)) pa_nil)))) (pss_one (ps_ret pe_str)))))
    (pss_one (ps_expr (pe_bm PySem.F.plainAttrs_list PySem.F.slot_list_append PySem.F.type_list_append mt_append (pv 1) (pa_cons (pe_ix ix_tup (pv 3) pe_int (fun _ _ => rfl)) pa_nil)))))))
    (pss_one (ps_ret (pv 2))))))
theorem ok_figures (T : Txt K mg) : FnOk P w K mg base CX0 1 (He.ga K "figures") (fdAt K (("figures" : Str), (none : Option Str))) ["number"] (sp_figures K) := by
  refine (T.d_figures.F.ok sc_figures (fun vs H Q E h => len_figures h) (fun cdv A outer s H vs Q E hr h => ⟨t_figures K E, PSs.nox ?_, pure_figures K vs H Q E h⟩) : FnOk P w K mg base CX0 (0 + 1) _ _ _ _)
  have hu := hu_of hr
  exact (pss_one (ps_ret (pe_lst (pa_cons (pe_op op_fdiv (pv 0) pe_int) (pa_cons (pe_op op_mod (pe_op op_fdiv (pv 0) pe_int) pe_int) (pa_cons (pe_op op_mod (pv 0) pe_int) pa_nil))))))
theorem ok_fixed (T : Txt K mg) : FnOk P w K mg base CX0 2 (He.ga K "fixed") (fdAt K (("fixed" : Str), (none : Option Str))) ["record", "place", "number"] (sp_fixed K) := by
  refine (T.d_fixed.F.ok sc_fixed (fun vs H Q E h => len_fixed h) (fun cdv A outer s H vs Q E hr h => ⟨t_fixed K E, PSs.nox ?_, pure_fixed K vs H Q E h⟩) : FnOk P w K mg base CX0 (1 + 1) _ _ _ _)
  have hu := hu_of hr
  exact (pss_cons (ps_set (i := 3) sc_fixed.nd rfl (by first | exact Or.inl rfl | exact Or.inr rfl) (pe_callTy call_list_of (by rfl) T.n_list (by decide +kernel) (pa_cons (pv 0) pa_nil)))
    (pss_cons (ps_set (i := 4) sc_fixed.nd rfl (by first | exact Or.inl rfl | exact Or.inr rfl) (pe_ix ix_list (pv 3) (pv 1) (fun _ _ => rfl)))
    (pss_cons (ps_asg (pe_tup (pa_cons (pe_ix ix_tup (pv 4) pe_int (fun _ _ => rfl)) (pa_cons (pe_ix ix_tup (pv 4) pe_int (fun _ _ => rfl)) (pa_cons (pe_call (ok_figures T) (hr.mono (by decide)) rfl T.g_figures T.d_figures.F.kp T.d_figures.b .nil pass0 (pa_cons (pv 2) pa_nil)) pa_nil)))) (pg_sub (pv 3) (pv 1) set_list))
    (pss_one (ps_ret (pv 3))))))
theorem ok_sums (T : Txt K mg) : FnOk P w K mg base CX0 1 (He.ga K "sums") (fdAt K (("sums" : Str), (none : Option Str))) ["many"] (sp_sums K) := by
  refine (T.d_sums.F.ok sc_sums (fun vs H Q E h => len_sums h) (fun cdv A outer s H vs Q E hr h => ⟨t_sums K E, PSs.nox ?_, pure_sums K vs H Q E h⟩) : FnOk P w K mg base CX0 (0 + 1) _ _ _ _)
  have hu := hu_of hr
  obtain ⟨t_MOST, g_MOST⟩ := T.g_MOST
  exact (pss_cons (ps_set (i := 1) sc_sums.nd rfl (by first | exact Or.inl rfl | exact Or.inr rfl) (pe_lst (pa_cons pe_int pa_nil)))
    (pss_cons (ps_for PassesOwn.never rfl (pi_list (pv 0)) (pg_name (i := 2) sc_sums.nd rfl (by first | exact Or.inl rfl | exact Or.inr rfl)) (pss_cons (ps_set (i := 3) sc_sums.nd rfl (by first | exact Or.inl rfl | exact Or.inr rfl) pe_dnewK)
    (pss_cons (ps_for PassesOwn.never rfl (pi_list (pv 1)) (pg_name (i := 4) sc_sums.nd rfl (by first | exact Or.inl rfl | exact Or.inr rfl)) (pss_one (ps_for PassesOwn.never rfl (pi_list (pv 2)) (pg_name (i := 5) sc_sums.nd rfl (by first | exact Or.inl rfl | exact Or.inr rfl)) (pss_one (ps_if (pt_cmpR op_le (pe_op op_add (pv 4) (pv 5)) (pe_glob rfl g_MOST ⟨_, rfl⟩) (nomark _)) (pss_one (ps_dput hu (pv 3) (pe_op op_add (pv 4) (pv 5)) pe_bl rfl)) pss_nil)))))
    (pss_one (ps_set (i := 1) sc_sums.nd rfl (by first | exact Or.inl rfl | exact Or.inr rfl) (pe_callB cr_sortedI (by rfl) T.n_sorted (by decide +kernel) (pa_cons (pe_callTy (call_list_dK rfl) (by rfl) T.n_list (by decide +kernel) (pa_cons (pv 3) pa_nil)) pa_nil)))))))
    (pss_one (ps_ret (pv 1)))))
theorem ok_without (T : Txt K mg) : FnOk P w K mg base CX0 2 (He.ga K "without") (fdAt K (("without" : Str), (none : Option Str))) ["rows"] (sp_without K) := by
  refine (T.d_without.F.ok sc_without (fun vs H Q E h => len_without h) (fun cdv A outer s H vs Q E hr h => ⟨t_without K E, PSs.nox ?_, pure_without K vs H Q E h⟩) : FnOk P w K mg base CX0 (1 + 1) _ _ _ _)
  have hu := hu_of hr
  exact (pss_cons (ps_set (i := 1) sc_without.nd rfl (by first | exact Or.inl rfl | exact Or.inr rfl) (pe_lst (pa_cons (pe_lst (pa_cons pe_int pa_nil)) pa_nil)))
    (pss_cons (ps_for PassesOwn.never rfl (pi_list (pv 0)) (pg_name (i := 2) sc_without.nd rfl (by first | exact Or.inl rfl | exact Or.inr rfl)) (pss_one (ps_expr (pe_bm PySem.F.plainAttrs_list PySem.F.slot_list_append PySem.F.type_list_append mt_append (pv 1) (pa_cons (pe_call (ok_sums T) (hr.mono (by decide)) rfl T.g_sums T.d_sums.F.kp T.d_sums.b .nil pass0 (pa_cons (pe_lst (pa_cons (pe_ix ix_list (pv 1) (pe_un un_neg pe_int) (fun _ _ => rfl)) (pa_cons (pv 2) pa_nil))) pa_nil)) pa_nil)))))
    (pss_cons (ps_set (i := 3) sc_without.nd rfl (by first | exact Or.inl rfl | exact Or.inr rfl) (pe_lst pa_nil))
    (pss_cons (ps_set (i := 4) sc_without.nd rfl (by first | exact Or.inl rfl | exact Or.inr rfl) (pe_lst (pa_cons pe_int pa_nil)))
    (pss_cons (ps_for PassesOwn.never rfl (pi_range1 (by rfl) T.n_range (pa_cons (pe_callB call_len_seq (by rfl) T.n_len (by decide +kernel) (pa_cons (pv 0) pa_nil)) pa_nil)) (pg_name (i := 5) sc_without.nd rfl (by first | exact Or.inl rfl | exact Or.inr rfl)) (pss_cons (ps_set (i := 6) sc_without.nd rfl (by first | exact Or.inl rfl | exact Or.inr rfl) (pe_op op_sub (pe_op op_sub (pe_callB call_len_seq (by rfl) T.n_len (by decide +kernel) (pa_cons (pv 0) pa_nil)) pe_int) (pv 5)))
    (pss_cons (ps_expr (pe_bm PySem.F.plainAttrs_list PySem.F.slot_list_append PySem.F.type_list_append mt_append (pv 3) (pa_cons (pe_call (ok_sums T) (hr.mono (by decide)) rfl T.g_sums T.d_sums.F.kp T.d_sums.b .nil pass0 (pa_cons (pe_lst (pa_cons (pe_ix ix_list (pv 1) (pv 6) (fun _ _ => rfl)) (pa_cons (pv 4) pa_nil))) pa_nil)) pa_nil)))
    (pss_one (ps_set (i := 4) sc_without.nd rfl (by first | exact Or.inl rfl | exact Or.inr rfl) (pe_call (ok_sums T) (hr.mono (by decide)) rfl T.g_sums T.d_sums.F.kp T.d_sums.b .nil pass0 (pa_cons (pe_lst (pa_cons (pv 4) (pa_cons (pe_ix ix_list (pv 0) (pv 6) (fun _ _ => rfl)) pa_nil))) pa_nil)))))))
    (pss_one (ps_ret (pe_lstrev rfl (by rfl) T.n_list (by rfl) T.n_reversed (pv 3)))))))))
theorem ok_beside (T : Txt K mg) : FnOk P w K mg base CX0 3 (He.ga K "beside") (fdAt K (("beside" : Str), (none : Option Str))) ["kids", "below"] (sp_beside K) := by
  refine (T.d_beside.F.ok sc_beside (fun vs H Q E h => len_beside h) (fun cdv A outer s H vs Q E hr h => ⟨t_beside K E, PSs.nox ?_, pure_beside K vs H Q E h⟩) : FnOk P w K mg base CX0 (2 + 1) _ _ _ _)
  have hu := hu_of hr
  exact (pss_cons (ps_setLc (i := 2) (own := [("row", 3)]) (by rfl) sc_beside.nd rfl rfl (sw_true rfl rfl rfl (by decide +kernel)) (pi_list (pv 1)) (blkOk_by (own := [("row", 3)]) (N := ["kids", "below", "found", "row", "those", "parts", "kid", "part"]) (sc := defScope s_beside) (by decide +kernel)) (fun _ _ _ _ _ => (pg_name (i := 3) sc_beside.nd rfl (by first | exact Or.inl rfl | exact Or.inr rfl))) (fun _ _ _ _ _ => pts_nil) (fun _ _ _ _ _ => (pe_lst (pa_cons pe_int pa_nil))))
    (pss_cons (ps_for PassesOwn.never rfl (pi_list (pv 0)) (pg_name (i := 4) sc_beside.nd rfl (by first | exact Or.inl rfl | exact Or.inr rfl)) (pss_cons (ps_set (i := 5) sc_beside.nd rfl (by first | exact Or.inl rfl | exact Or.inr rfl) (pe_call (ok_without T) (hr.mono (by decide)) rfl T.g_without T.d_without.F.kp T.d_without.b .nil pass0 (pa_cons (pe_lc (own := [("kid", 6)]) (by rfl) sc_beside.nd (pi_list (pv 4)) (blkOk_by (own := [("kid", 6)]) (N := ["kids", "below", "found", "row", "those", "parts", "kid", "part"]) (sc := defScope s_beside) (by decide +kernel)) (fun _ _ _ _ _ => (pg_name (i := 6) sc_beside.nd rfl (by first | exact Or.inl rfl | exact Or.inr rfl))) (fun _ _ _ _ _ => pts_nil) (fun _ _ _ _ _ => (pe_ix ix_list (pv 1) (pv 6) (fun _ _ => rfl)))) pa_nil)))
    (pss_one (ps_for PassesOwn.never rfl (pi_zip (by rfl) T.n_zip (pa_cons (pv 4) (pa_cons (pv 5) pa_nil))) (pg_tup rfl (pgs_cons (pg_name (i := 6) sc_beside.nd rfl (by first | exact Or.inl rfl | exact Or.inr rfl)) (pgs_cons (pg_name (i := 7) sc_beside.nd rfl (by first | exact Or.inl rfl | exact Or.inr rfl)) pgs_nil))) (pss_one (ps_asg (pv 7) (pg_sub (pv 2) (pv 6) set_list)))))))
    (pss_one (ps_ret (pv 2)))))
theorem ok_fits (T : Txt K mg) : FnOk P w K mg base CX0 2 (He.ga K "fits") (fdAt K (("fits" : Str), (none : Option Str))) ["number", "knots"] (sp_fits K) := by
  refine (T.d_fits.F.ok sc_fits (fun vs H Q E h => len_fits h) (fun cdv A outer s H vs Q E hr h => ⟨t_fits K E, PSs.nox ?_, pure_fits K vs H Q E h⟩) : FnOk P w K mg base CX0 (1 + 1) _ _ _ _)
  have hu := hu_of hr
  exact (pss_cons (ps_set (i := 2) sc_fits.nd rfl (by first | exact Or.inl rfl | exact Or.inr rfl) (pe_call (ok_figures T) (hr.mono (by decide)) rfl T.g_figures T.d_figures.F.kp T.d_figures.b .nil pass0 (pa_cons (pv 0) pa_nil)))
    (pss_cons (ps_for PassesOwn.never rfl (pi_range1 (by rfl) T.n_range (pa_cons pe_int pa_nil)) (pg_name (i := 3) sc_fits.nd rfl (by first | exact Or.inl rfl | exact Or.inr rfl)) (pss_one (ps_if (PW.pt (pw_and (pt_cmpR op_notN (pe_ix ix_list (pv 1) (pv 3) (fun _ _ => rfl)) pe_non (nomark _)) (pw_and1 (pt_cmpR op_ne (pe_ix ix_list (pv 1) (pv 3) (fun _ _ => rfl)) (pe_ix ix_list (pv 2) (pv 3) (fun _ _ => rfl)) (nomark _))))) (pss_one (ps_ret pe_bl)) pss_nil)))
    (pss_one (ps_ret pe_bl))))
theorem ok_ways (T : Txt K mg) : FnOk P w K mg base CX0 1 (He.ga K "ways") (fdAt K (("ways" : Str), (none : Option Str))) ["knots"] (sp_ways K) := by
  refine (T.d_ways.F.ok sc_ways (fun vs H Q E h => len_ways h) (fun cdv A outer s H vs Q E hr h => ⟨t_ways K E, PSs.nox ?_, pure_ways K vs H Q E h⟩) : FnOk P w K mg base CX0 (0 + 1) _ _ _ _)
  have hu := hu_of hr
  exact (pss_cons (ps_set (i := 1) sc_ways.nd rfl (by first | exact Or.inl rfl | exact Or.inr rfl) (pe_lst (pa_cons pe_int pa_nil)))
    (pss_cons (ps_for PassesOwn.never rfl (pi_list (pv 0)) (pg_name (i := 2) sc_ways.nd rfl (by first | exact Or.inl rfl | exact Or.inr rfl)) (pss_cons (ps_set (i := 3) sc_ways.nd rfl (by first | exact Or.inl rfl | exact Or.inr rfl) (pe_lst pa_nil))
    (pss_cons (ps_for PassesOwn.never rfl (pi_list (pv 1)) (pg_name (i := 4) sc_ways.nd rfl (by first | exact Or.inl rfl | exact Or.inr rfl)) (pss_one (ps_if (pt_cmpR op_isN (pv 2) pe_non (nomark _)) (pss_one (ps_expr (pe_bm PySem.F.plainAttrs_list PySem.F.slot_list_extend PySem.F.type_list_extend mt_extend (pv 3) (pa_cons (pe_lc (own := [("last", 5)]) (by rfl) sc_ways.nd (pi_range1 (by rfl) T.n_range (pa_cons pe_int pa_nil)) (blkOk_by (own := [("last", 5)]) (N := ["knots", "found", "figure", "longer", "number", "last"]) (sc := defScope s_ways) (by decide +kernel)) (fun _ _ _ _ _ => (pg_name (i := 5) sc_ways.nd rfl (by first | exact Or.inl rfl | exact Or.inr rfl))) (fun _ _ _ _ _ => pts_nil) (fun _ _ _ _ _ => (pe_op op_add (pe_op op_mul (pv 4) pe_int) (pv 5)))) pa_nil)))) (pss_one (ps_expr (pe_bm PySem.F.plainAttrs_list PySem.F.slot_list_append PySem.F.type_list_append mt_append (pv 3) (pa_cons (pe_op op_add (pe_op op_mul (pv 4) pe_int) (pv 2)) pa_nil)))))))
    (pss_one (ps_set (i := 1) sc_ways.nd rfl (by first | exact Or.inl rfl | exact Or.inr rfl) (pv 3))))))
    (pss_one (ps_ret (pv 1)))))
theorem ok_from_below (T : Txt K mg) : FnOk P w K mg base (L2.CX P w) 4 (He.ga K "from_below") (fdAt K (("from_below" : Str), (none : Option Str))) ["record", "kids"] (sp_from_below K) := by
  refine (T.d_from_below.F.ok sc_from_below (fun vs H Q E h => len_from_below h) (fun cdv A outer s H vs Q E hr h => ⟨t_from_below K E, ?_, pure_from_below K vs H Q E h⟩) : FnOk P w K mg base (L2.CX P w) (3 + 1) _ _ _ _)
  have hu := hu_of hr
  exact (pss_cons (ps_set (i := 2) sc_from_below.nd rfl (by first | exact Or.inl rfl | exact Or.inr rfl) (pe_lc (own := [("row", 3)]) (by rfl) sc_from_below.nd (pi_list (pv 0)) (blkOk_by (own := [("row", 3)]) (N := ["record", "kids", "found", "row", "back", "place", "knots", "total", "kid", "number"]) (sc := defScope s_from_below) (by decide +kernel)) (fun _ _ _ _ _ => (pg_name (i := 3) sc_from_below.nd rfl (by first | exact Or.inl rfl | exact Or.inr rfl))) (fun _ _ _ _ _ => pts_nil) (fun _ _ _ _ _ => (pe_lst pa_nil))))
    (pss_cons (ps_for (passes_of rfl) rfl (pi_range1 (by rfl) T.n_range (pa_cons (pe_callB call_len_seq (by rfl) T.n_len (by decide +kernel) (pa_cons (pv 0) pa_nil)) pa_nil)) (pg_name (i := 4) sc_from_below.nd rfl (by first | exact Or.inl rfl | exact Or.inr rfl)) (pss_cons (ps_set (i := 5) sc_from_below.nd rfl (by first | exact Or.inl rfl | exact Or.inr rfl) (pe_op op_sub (pe_op op_sub (pe_callB call_len_seq (by rfl) T.n_len (by decide +kernel) (pa_cons (pv 0) pa_nil)) pe_int) (pv 4)))
    (pss_cons (ps_set (i := 6) sc_from_below.nd rfl (by first | exact Or.inl rfl | exact Or.inr rfl) (pe_ix ix_tup (pe_ix ix_list (pv 0) (pv 5) (fun _ _ => rfl)) pe_int (fun _ _ => rfl)))
    (pss_cons (ps_if (pt_cmpR op_eq (pe_callB call_len_seq (by rfl) T.n_len (by decide +kernel) (pa_cons (pe_ix ix_list (pv 1) (pv 5) (fun _ _ => rfl)) pa_nil)) pe_int (nomark _)) (pss_one (ps_asg (pe_call (ok_ways T) (hr.mono (by decide)) rfl T.g_ways T.d_ways.F.kp T.d_ways.b .nil pass0 (pa_cons (pv 6) pa_nil)) (pg_sub (pv 2) (pv 5) set_list))) (pss_cons (ps_set (i := 7) sc_from_below.nd rfl (by first | exact Or.inl rfl | exact Or.inr rfl) (pe_call (ok_sums T) (hr.mono (by decide)) rfl T.g_sums T.d_sums.F.kp T.d_sums.b .nil pass0 (pa_cons (pe_lc (own := [("kid", 8)]) (by rfl) sc_from_below.nd (pi_list (pe_ix ix_list (pv 1) (pv 5) (fun _ _ => rfl))) (blkOk_by (own := [("kid", 8)]) (N := ["record", "kids", "found", "row", "back", "place", "knots", "total", "kid", "number"]) (sc := defScope s_from_below) (by decide +kernel)) (fun _ _ _ _ _ => (pg_name (i := 8) sc_from_below.nd rfl (by first | exact Or.inl rfl | exact Or.inr rfl))) (fun _ _ _ _ _ => pts_nil) (fun _ _ _ _ _ => (pe_ix ix_list (pv 2) (pv 8) (fun _ _ => rfl)))) pa_nil)))
    (pss_one (ps_asg (pe_lc (own := [("number", 9)]) (by rfl) sc_from_below.nd (pi_list (pv 7)) (blkOk_by (own := [("number", 9)]) (N := ["record", "kids", "found", "row", "back", "place", "knots", "total", "kid", "number"]) (sc := defScope s_from_below) (by decide +kernel)) (fun _ _ _ _ _ => (pg_name (i := 9) sc_from_below.nd rfl (by first | exact Or.inl rfl | exact Or.inr rfl))) (fun _ _ _ _ _ => (pts_one (pt_val (pe_call (ok_fits T) (hr.mono (by decide)) rfl T.g_fits T.d_fits.F.kp T.d_fits.b .nil pass0 (pa_cons (pv 9) (pa_cons (pv 6) pa_nil)))))) (fun _ _ _ _ _ => (pv 9))) (pg_sub (pv 2) (pv 5) set_list)))))
    (pss_one (ps_if (pt_cmpR op_eq (pe_callB call_len_seq (by rfl) T.n_len (by decide +kernel) (pa_cons (pe_ix ix_list (pv 2) (pv 5) (fun _ _ => rfl)) pa_nil)) pe_int (nomark _)) (pss_one (ps_raise (W := fun cls d _ H => E cls d H) rfl (takes_of rfl rfl rfl rfl) (pmk_own PySem.F.excBase_ValueError T.x_Frayed.ex T.x_Frayed.g T.x_Frayed.kp (raises_own T.x_Frayed.sb T.x_Frayed.ty) (by exact rfl)))) pss_nil))))))
    (pss_one (ps_ret (pv 2)))))
theorem ok_hanging (T : Txt K mg) : FnOk P w K mg base CX0 1 (He.ga K "hanging") (fdAt K (("hanging" : Str), (none : Option Str))) ["overs"] (sp_hanging K) := by
  refine (T.d_hanging.F.ok sc_hanging (fun vs H Q E h => len_hanging h) (fun cdv A outer s H vs Q E hr h => ⟨t_hanging K E, PSs.nox ?_, pure_hanging K vs H Q E h⟩) : FnOk P w K mg base CX0 (0 + 1) _ _ _ _)
  have hu := hu_of hr
  exact (pss_cons (ps_setLc (i := 1) (own := [("over", 2)]) (by rfl) sc_hanging.nd rfl rfl (sw_true rfl rfl rfl (by decide +kernel)) (pi_list (pv 0)) (blkOk_by (own := [("over", 2)]) (N := ["overs", "found", "over", "place"]) (sc := defScope s_hanging) (by decide +kernel)) (fun _ _ _ _ _ => (pg_name (i := 2) sc_hanging.nd rfl (by first | exact Or.inl rfl | exact Or.inr rfl))) (fun _ _ _ _ _ => pts_nil) (fun _ _ _ _ _ => (pe_lst pa_nil)))
    (pss_cons (ps_for PassesOwn.never rfl (pi_range1 (by rfl) T.n_range (pa_cons (pe_callB call_len_seq (by rfl) T.n_len (by decide +kernel) (pa_cons (pv 0) pa_nil)) pa_nil)) (pg_name (i := 3) sc_hanging.nd rfl (by first | exact Or.inl rfl | exact Or.inr rfl)) (pss_one (ps_if (pt_cmpR op_notN (pe_ix ix_list (pv 0) (pv 3) (fun _ _ => rfl)) pe_non (nomark _)) (pss_one (ps_expr (pe_bm PySem.F.plainAttrs_list PySem.F.slot_list_append PySem.F.type_list_append mt_append (pe_ix ix_list (pv 1) (pe_ix ix_list (pv 0) (pv 3) (fun _ _ => rfl)) (fun _ _ => rfl)) (pa_cons (pv 3) pa_nil)))) pss_nil)))
    (pss_one (ps_ret (pv 1)))))
theorem ok_looked (T : Txt K mg) : FnOk P w K mg base (L2.CX P w) 2 (He.ga K "looked") (fdAt K (("looked" : Str), (none : Option Str))) ["record"] (sp_looked K) := by
  refine (T.d_looked.F.ok sc_looked (fun vs H Q E h => len_looked h) (fun cdv A outer s H vs Q E hr h => ⟨t_looked K E, ?_, pure_looked K vs H Q E h⟩) : FnOk P w K mg base (L2.CX P w) (1 + 1) _ _ _ _)
  have hu := hu_of hr
  exact (pss_cons (ps_set (i := 1) sc_looked.nd rfl (by first | exact Or.inl rfl | exact Or.inr rfl) pe_dnewK)
    (pss_cons (ps_set (i := 2) sc_looked.nd rfl (by first | exact Or.inl rfl | exact Or.inr rfl) (pe_lst pa_nil))
    (pss_cons (ps_for (passes_of rfl) rfl (pi_list (pv 0)) (pg_name (i := 3) sc_looked.nd rfl (by first | exact Or.inl rfl | exact Or.inr rfl)) (pss_cons (ps_if (pt_cmp (pc_din hu (pe_ix ix_tup (pv 3) pe_int (fun _ _ => rfl)) (pv 1)) (by with_unfolding_all rfl)) (pss_one (ps_raise (W := fun cls d _ H => E cls d H) rfl (takes_of rfl rfl rfl rfl) (pmk_own PySem.F.excBase_ValueError T.x_Taken.ex T.x_Taken.g T.x_Taken.kp (raises_own T.x_Taken.sb T.x_Taken.ty) (by exact rfl)))) pss_nil)
    (pss_cons (ps_if (pt_cmpR op_isN (pe_ix ix_tup (pv 3) pe_int (fun _ _ => rfl)) pe_non (nomark _)) (pss_one (ps_expr (pe_bm PySem.F.plainAttrs_list PySem.F.slot_list_append PySem.F.type_list_append mt_append (pv 2) (pa_cons pe_non pa_nil)))) (pss_one (ps_if (pt_cmp (pc_din hu (pe_ix ix_tup (pv 3) pe_int (fun _ _ => rfl)) (pv 1)) (by with_unfolding_all rfl)) (pss_one (ps_expr (pe_bm PySem.F.plainAttrs_list PySem.F.slot_list_append PySem.F.type_list_append mt_append (pv 2) (pa_cons (pe_dget hu (pv 1) (pe_ix ix_tup (pv 3) pe_int (fun _ _ => rfl)) (fun _ _ => rfl)) pa_nil)))) (pss_one (ps_raise (W := fun cls d _ H => E cls d H) rfl (takes_of rfl rfl rfl rfl) (pmk_own PySem.F.excBase_ValueError T.x_NoCord.ex T.x_NoCord.g T.x_NoCord.kp (raises_own T.x_NoCord.sb T.x_NoCord.ty) (by exact rfl)))))))
    (pss_one (ps_dput hu (pv 1) (pe_ix ix_tup (pv 3) pe_int (fun _ _ => rfl)) (pe_op op_sub (pe_callB call_len_seq (by rfl) T.n_len (by decide +kernel) (pa_cons (pv 2) pa_nil)) pe_int) rfl)))))
    (pss_one (ps_ret (pv 2))))))
theorem ok_marked (T : Txt K mg) : FnOk P w K mg base CX0 1 (He.ga K "marked") (fdAt K (("marked" : Str), (none : Option Str))) ["row"] (sp_marked K) := by
  refine (T.d_marked.F.ok sc_marked (fun vs H Q E h => len_marked h) (fun cdv A outer s H vs Q E hr h => ⟨t_marked K E, PSs.nox ?_, pure_marked K vs H Q E h⟩) : FnOk P w K mg base CX0 (0 + 1) _ _ _ _)
  have hu := hu_of hr
  exact (pss_cons (ps_set (i := 1) sc_marked.nd rfl (by first | exact Or.inl rfl | exact Or.inr rfl) pe_dnewK)
    (pss_cons (ps_for PassesOwn.never rfl (pi_list (pv 0)) (pg_name (i := 2) sc_marked.nd rfl (by first | exact Or.inl rfl | exact Or.inr rfl)) (pss_one (ps_dput hu (pv 1) (pv 2) pe_bl rfl)))
    (pss_one (ps_ret (pv 1)))))
theorem ok_meets (T : Txt K mg) : FnOk P w K mg base CX0 1 (He.ga K "meets") (fdAt K (("meets" : Str), (none : Option Str))) ["number", "others", "whole"] (sp_meets K) := by
  refine (T.d_meets.F.ok sc_meets (fun vs H Q E h => len_meets h) (fun cdv A outer s H vs Q E hr h => ⟨t_meets K E, PSs.nox ?_, pure_meets K vs H Q E h⟩) : FnOk P w K mg base CX0 (0 + 1) _ _ _ _)
  have hu := hu_of hr
  exact (pss_cons (ps_for PassesOwn.never rfl (pi_list (pv 1)) (pg_name (i := 3) sc_meets.nd rfl (by first | exact Or.inl rfl | exact Or.inr rfl)) (pss_one (ps_if (pt_cmp (pc_din hu (pe_op op_add (pv 0) (pv 3)) (pv 2)) (by with_unfolding_all rfl)) (pss_one (ps_ret pe_bl)) pss_nil)))
    (pss_one (ps_ret pe_bl)))
theorem ok_numbers (T : Txt K mg) : FnOk P w K mg base (L2.CX P w) 6 (He.ga K "numbers") (fdAt K (("numbers" : Str), (none : Option Str))) ["record"] (sp_numbers K) := by
  refine (T.d_numbers.F.ok sc_numbers (fun vs H Q E h => len_numbers h) (fun cdv A outer s H vs Q E hr h => ⟨t_numbers K E, ?_, pure_numbers K vs H Q E h⟩) : FnOk P w K mg base (L2.CX P w) (5 + 1) _ _ _ _)
  have hu := hu_of hr
  exact (pss_cons (ps_set (i := 1) sc_numbers.nd rfl (by first | exact Or.inl rfl | exact Or.inr rfl) (pe_call (ok_looked T) (hr.mono (by decide)) rfl T.g_looked T.d_looked.F.kp T.d_looked.b .nil (passes_call (takes_of rfl rfl rfl rfl) (fun _ _ _ _ h => h)) (pa_cons (pv 0) pa_nil)))
    (pss_cons (ps_set (i := 2) sc_numbers.nd rfl (by first | exact Or.inl rfl | exact Or.inr rfl) (pe_call (ok_hanging T) (hr.mono (by decide)) rfl T.g_hanging T.d_hanging.F.kp T.d_hanging.b .nil pass0 (pa_cons (pv 1) pa_nil)))
    (pss_cons (ps_set (i := 3) sc_numbers.nd rfl (by first | exact Or.inl rfl | exact Or.inr rfl) (pe_call (ok_from_below T) (hr.mono (by decide)) rfl T.g_from_below T.d_from_below.F.kp T.d_from_below.b .nil (passes_call (takes_of rfl rfl rfl rfl) (fun _ _ _ _ h => h)) (pa_cons (pv 0) (pa_cons (pv 2) pa_nil))))
    (pss_cons (ps_set (i := 4) sc_numbers.nd rfl (by first | exact Or.inl rfl | exact Or.inr rfl) (pe_call (ok_beside T) (hr.mono (by decide)) rfl T.g_beside T.d_beside.F.kp T.d_beside.b .nil pass0 (pa_cons (pv 2) (pa_cons (pv 3) pa_nil))))
    (pss_cons (ps_set (i := 5) sc_numbers.nd rfl (by first | exact Or.inl rfl | exact Or.inr rfl) (pe_lst pa_nil))
    (pss_cons (ps_for (passes_of rfl) rfl (pi_range1 (by rfl) T.n_range (pa_cons (pe_callB call_len_seq (by rfl) T.n_len (by decide +kernel) (pa_cons (pv 0) pa_nil)) pa_nil)) (pg_name (i := 6) sc_numbers.nd rfl (by first | exact Or.inl rfl | exact Or.inr rfl)) (pss_one (ps_if (pt_cmpR op_isN (pe_ix ix_list (pv 1) (pv 6) (fun _ _ => rfl)) pe_non (nomark _)) (pss_one (ps_expr (pe_bm PySem.F.plainAttrs_list PySem.F.slot_list_append PySem.F.type_list_append mt_append (pv 5) (pa_cons (pe_callTy call_list_of (by rfl) T.n_list (by decide +kernel) (pa_cons (pe_ix ix_list (pv 3) (pv 6) (fun _ _ => rfl)) pa_nil)) pa_nil)))) (pss_cons (ps_set (i := 7) sc_numbers.nd rfl (by first | exact Or.inl rfl | exact Or.inr rfl) (pe_call (ok_marked T) (hr.mono (by decide)) rfl T.g_marked T.d_marked.F.kp T.d_marked.b .nil pass0 (pa_cons (pe_ix ix_list (pv 5) (pe_ix ix_list (pv 1) (pv 6) (fun _ _ => rfl)) (fun _ _ => rfl)) pa_nil)))
    (pss_one (ps_expr (pe_bm PySem.F.plainAttrs_list PySem.F.slot_list_append PySem.F.type_list_append mt_append (pv 5) (pa_cons (pe_lc (own := [("number", 8)]) (by rfl) sc_numbers.nd (pi_list (pe_ix ix_list (pv 3) (pv 6) (fun _ _ => rfl))) (blkOk_by (own := [("number", 8)]) (N := ["record", "overs", "kids", "below", "others", "found", "place", "whole", "number"]) (sc := defScope s_numbers) (by decide +kernel)) (fun _ _ _ _ _ => (pg_name (i := 8) sc_numbers.nd rfl (by first | exact Or.inl rfl | exact Or.inr rfl))) (fun _ _ _ _ _ => (pts_one (pt_val (pe_call (ok_meets T) (hr.mono (by decide)) rfl T.g_meets T.d_meets.F.kp T.d_meets.b .nil pass0 (pa_cons (pv 8) (pa_cons (pe_ix ix_list (pv 4) (pv 6) (fun _ _ => rfl)) (pa_cons (pv 7) pa_nil))))))) (fun _ _ _ _ _ => (pv 8))) pa_nil))))))))
    (pss_one (ps_ret (pv 5)))))))))
theorem ok_first (T : Txt K mg) : FnOk P w K mg base (L2.CX P w) 8 (He.ga K "first") (fdAt K (("first" : Str), (none : Option Str))) ["record"] (sp_first K) := by
  refine (T.d_first.F.ok sc_first (fun vs H Q E h => len_first h) (fun cdv A outer s H vs Q E hr h => ⟨t_first K E, ?_, pure_first K vs H Q E h⟩) : FnOk P w K mg base (L2.CX P w) (7 + 1) _ _ _ _)
  have hu := hu_of hr
  exact (pss_cons (ps_set (i := 1) sc_first.nd rfl (by first | exact Or.inl rfl | exact Or.inr rfl) (pe_callTy call_list_of (by rfl) T.n_list (by decide +kernel) (pa_cons (pv 0) pa_nil)))
    (pss_cons (ps_set (i := 2) sc_first.nd rfl (by first | exact Or.inl rfl | exact Or.inr rfl) (pe_call (ok_numbers T) (hr.mono (by decide)) rfl T.g_numbers T.d_numbers.F.kp T.d_numbers.b .nil (passes_call (takes_of rfl rfl rfl rfl) (fun _ _ _ _ h => h)) (pa_cons (pv 1) pa_nil)))
    (pss_cons (ps_for (passes_of rfl) rfl (pi_range1 (by rfl) T.n_range (pa_cons (pe_callB call_len_seq (by rfl) T.n_len (by decide +kernel) (pa_cons (pv 0) pa_nil)) pa_nil)) (pg_name (i := 3) sc_first.nd rfl (by first | exact Or.inl rfl | exact Or.inr rfl)) (pss_one (ps_if (pt_cmpR op_gt (pe_callB call_len_seq (by rfl) T.n_len (by decide +kernel) (pa_cons (pe_ix ix_list (pv 2) (pv 3) (fun _ _ => rfl)) pa_nil)) pe_int (nomark _)) (pss_cons (ps_set (i := 1) sc_first.nd rfl (by first | exact Or.inl rfl | exact Or.inr rfl) (pe_call (ok_fixed T) (hr.mono (by decide)) rfl T.g_fixed T.d_fixed.F.kp T.d_fixed.b .nil pass0 (pa_cons (pv 1) (pa_cons (pv 3) (pa_cons (pe_ix ix_list (pe_ix ix_list (pv 2) (pv 3) (fun _ _ => rfl)) pe_int (fun _ _ => rfl)) pa_nil)))))
    (pss_one (ps_set (i := 2) sc_first.nd rfl (by first | exact Or.inl rfl | exact Or.inr rfl) (pe_call (ok_numbers T) (hr.mono (by decide)) rfl T.g_numbers T.d_numbers.F.kp T.d_numbers.b .nil (passes_call (takes_of rfl rfl rfl rfl) (fun _ _ _ _ h => h)) (pa_cons (pv 1) pa_nil))))) pss_nil)))
    (pss_one (ps_ret (pe_lc (own := [("row", 4)]) (by rfl) sc_first.nd (pi_list (pv 2)) (blkOk_by (own := [("row", 4)]) (N := ["record", "made", "found", "place", "row"]) (sc := defScope s_first) (by decide +kernel)) (fun _ _ _ _ _ => (pg_name (i := 4) sc_first.nd rfl (by first | exact Or.inl rfl | exact Or.inr rfl))) (fun _ _ _ _ _ => pts_nil) (fun _ _ _ _ _ => (pe_ix ix_list (pv 4) pe_int (fun _ _ => rfl)))))))))
theorem ok_filling (T : Txt K mg) : FnOk P w K mg base (L2.CX P w) 10 (He.ga K "filling") (fdAt K (("filling" : Str), (none : Option Str))) ["record", "name", "number"] (sp_filling K) := by
  refine (T.d_filling.F.ok sc_filling (fun vs H Q E h => len_filling h) (fun cdv A outer s H vs Q E hr h => ⟨t_filling K E, ?_, pure_filling K vs H Q E h⟩) : FnOk P w K mg base (L2.CX P w) (9 + 1) _ _ _ _)
  have hu := hu_of hr
  exact (pss_cons (ps_set (i := 3) sc_filling.nd rfl (by first | exact Or.inl rfl | exact Or.inr rfl) (pe_call (ok_numbers T) (hr.mono (by decide)) rfl T.g_numbers T.d_numbers.F.kp T.d_numbers.b .nil (passes_call (takes_of rfl rfl rfl rfl) (fun _ _ _ _ h => h)) (pa_cons (pv 0) pa_nil)))
    (pss_cons (ps_for (passes_of rfl) rfl (pi_range1 (by rfl) T.n_range (pa_cons (pe_callB call_len_seq (by rfl) T.n_len (by decide +kernel) (pa_cons (pv 0) pa_nil)) pa_nil)) (pg_name (i := 4) sc_filling.nd rfl (by first | exact Or.inl rfl | exact Or.inr rfl)) (pss_one (ps_if (pt_cmpR op_eq (pe_ix ix_tup (pe_ix ix_list (pv 0) (pv 4) (fun _ _ => rfl)) pe_int (fun _ _ => rfl)) (pv 1) (nomark _)) (pss_cons (ps_if (pt_cmpR op_notIn_seq (pv 2) (pe_ix ix_list (pv 3) (pv 4) (fun _ _ => rfl)) (by with_unfolding_all rfl)) (pss_one (ps_raise (W := fun cls d _ H => E cls d H) rfl (takes_of rfl rfl rfl rfl) (pmk_own PySem.F.excBase_ValueError T.x_NoWay.ex T.x_NoWay.g T.x_NoWay.kp (raises_own T.x_NoWay.sb T.x_NoWay.ty) (by exact rfl)))) pss_nil)
    (pss_one (ps_ret (pe_call (ok_first T) (hr.mono (by decide)) rfl T.g_first T.d_first.F.kp T.d_first.b .nil (passes_call (takes_of rfl rfl rfl rfl) (fun _ _ _ _ h => h)) (pa_cons (pe_call (ok_fixed T) (hr.mono (by decide)) rfl T.g_fixed T.d_fixed.F.kp T.d_fixed.b .nil pass0 (pa_cons (pv 0) (pa_cons (pv 4) (pa_cons (pv 2) pa_nil)))) pa_nil))))) pss_nil)))
    (pss_one (ps_raise (W := fun cls d _ H => E cls d H) rfl (takes_of rfl rfl rfl rfl) (pmk_own PySem.F.excBase_ValueError T.x_NoCord.ex T.x_NoCord.g T.x_NoCord.kp (raises_own T.x_NoCord.sb T.x_NoCord.ty) (by exact rfl))))))
theorem ok_told (T : Txt K mg) : FnOk P w K mg base (L2.CX P w) 8 (He.ga K "told") (fdAt K (("told" : Str), (none : Option Str))) ["record"] (sp_told K) := by
  refine (T.d_told.F.ok sc_told (fun vs H Q E h => len_told h) (fun cdv A outer s H vs Q E hr h => ⟨t_told K E, ?_, pure_told K vs H Q E h⟩) : FnOk P w K mg base (L2.CX P w) (7 + 1) _ _ _ _)
  have hu := hu_of hr
  exact (pss_cons (ps_set (i := 1) sc_told.nd rfl (by first | exact Or.inl rfl | exact Or.inr rfl) (pe_lst pa_nil))
    (pss_cons (ps_for (passes_of rfl) rfl (pi_list (pe_call (ok_numbers T) (hr.mono (by decide)) rfl T.g_numbers T.d_numbers.F.kp T.d_numbers.b .nil (passes_call (takes_of rfl rfl rfl rfl) (fun _ _ _ _ h => h)) (pa_cons (pv 0) pa_nil))) (pg_name (i := 2) sc_told.nd rfl (by first | exact Or.inl rfl | exact Or.inr rfl)) (pss_one (ps_expr (pe_bm PySem.F.plainAttrs_list PySem.F.slot_list_append PySem.F.type_list_append mt_append (pv 1) (pa_cons (pe_lc (own := [("place", 4)]) (by rfl) sc_told.nd (pi_range1 (by rfl) T.n_range (pa_cons pe_int pa_nil)) (blkOk_by (own := [("place", 4)]) (N := ["record", "found", "row", "number", "place"]) (sc := defScope s_told) (by decide +kernel)) (fun _ _ _ _ _ => (pg_name (i := 4) sc_told.nd rfl (by first | exact Or.inl rfl | exact Or.inr rfl))) (fun _ _ _ _ _ => pts_nil) (fun _ _ _ _ _ => (pe_sortset rfl (by rfl) T.n_sorted (by rfl) T.n_set (pe_lc (own := [("number", 3)]) (by rfl) sc_told.nd (pi_list (pv 2)) (blkOk_by (own := [("number", 3)]) (by kernel_rfl)) (fun _ _ _ _ _ => (pg_name (i := 3) sc_told.nd rfl (by first | exact Or.inl rfl | exact Or.inr rfl))) (fun _ _ _ _ _ => pts_nil) (fun _ _ _ _ _ => (pe_ix ix_list (pe_call (ok_figures T) (hr.mono (by decide)) rfl T.g_figures T.d_figures.F.kp T.d_figures.b .nil pass0 (pa_cons (pv 3) pa_nil)) (pv 4) (fun _ _ => rfl))))))) pa_nil)))))
    (pss_one (ps_ret (pv 1)))))
theorem ok_mended (T : Txt K mg) : FnOk P w K mg base (L2.CX P w) 10 (He.ga K "mended") (fdAt K (("mended" : Str), (none : Option Str))) ["record"] (sp_mended K) := by
  refine (T.d_mended.F.ok sc_mended (fun vs H Q E h => len_mended h) (fun cdv A outer s H vs Q E hr h => ⟨t_mended K E, ?_, pure_mended K vs H Q E h⟩) : FnOk P w K mg base (L2.CX P w) (9 + 1) _ _ _ _)
  have hu := hu_of hr
  exact (pss_cons (ps_set (i := 1) sc_mended.nd rfl (by first | exact Or.inl rfl | exact Or.inr rfl) (pe_lst pa_nil))
    (pss_cons (ps_for (passes_of rfl) rfl (pi_enum (by rfl) T.n_enumerate (pa_cons (pe_call (ok_told T) (hr.mono (by decide)) rfl T.g_told T.d_told.F.kp T.d_told.b .nil (passes_call (takes_of rfl rfl rfl rfl) (fun _ _ _ _ h => h)) (pa_cons (pv 0) pa_nil)) pa_nil)) (pg_tup rfl (pgs_cons (pg_name (i := 2) sc_mended.nd rfl (by first | exact Or.inl rfl | exact Or.inr rfl)) (pgs_cons (pg_name (i := 3) sc_mended.nd rfl (by first | exact Or.inl rfl | exact Or.inr rfl)) pgs_nil))) (pss_cons (ps_set (i := 4) sc_mended.nd rfl (by first | exact Or.inl rfl | exact Or.inr rfl) (pe_ix ix_list (pv 0) (pv 2) (fun _ _ => rfl)))
    (pss_cons (ps_set (i := 5) sc_mended.nd rfl (by first | exact Or.inl rfl | exact Or.inr rfl) (pe_callTy call_list_of (by rfl) T.n_list (by decide +kernel) (pa_cons (pe_ix ix_tup (pv 4) pe_int (fun _ _ => rfl)) pa_nil)))
    (pss_cons (ps_for (passes_of rfl) rfl (pi_range1 (by rfl) T.n_range (pa_cons pe_int pa_nil)) (pg_name (i := 6) sc_mended.nd rfl (by first | exact Or.inl rfl | exact Or.inr rfl)) (pss_one (ps_if (pt_cmpR op_eq (pe_callB call_len_seq (by rfl) T.n_len (by decide +kernel) (pa_cons (pe_ix ix_list (pv 3) (pv 6) (fun _ _ => rfl)) pa_nil)) pe_int (nomark _)) (pss_one (ps_asg (pe_ix ix_list (pe_ix ix_list (pv 3) (pv 6) (fun _ _ => rfl)) pe_int (fun _ _ => rfl)) (pg_sub (pv 5) (pv 6) set_list))) pss_nil)))
    (pss_one (ps_expr (pe_bm PySem.F.plainAttrs_list PySem.F.slot_list_append PySem.F.type_list_append mt_append (pv 1) (pa_cons (pe_tup (pa_cons (pe_ix ix_tup (pv 4) pe_int (fun _ _ => rfl)) (pa_cons (pe_ix ix_tup (pv 4) pe_int (fun _ _ => rfl)) (pa_cons (pv 5) pa_nil)))) pa_nil))))))))
    (pss_one (ps_ret (pv 1)))))
theorem ok_law_empty (T : Txt K mg) : FnOk P w K mg base CX0 11 (He.ga K "_law_empty") (fdAt K (("_law_empty" : Str), (none : Option Str))) ["name"] (sp_law_empty K) := by
  refine (T.d_law_empty.F.ok sc_law_empty (fun vs H Q E h => len_law_empty h) (fun cdv A outer s H vs Q E hr h => ⟨t_law_empty K E, PSs.nox ?_, pure_law_empty K T.e_NoCord_NoCord vs H Q E h⟩) : FnOk P w K mg base CX0 (10 + 1) _ _ _ _)
  have hu := hu_of hr
  exact (pss_cons (ps_set (i := 1) sc_law_empty.nd rfl (by first | exact Or.inl rfl | exact Or.inr rfl) pe_str)
    (pss_cons (ps_try_only (Wout := fun _ _ _ _ => False) (tb := (fun W => tDrop (tCallS (sp_filling K) (WE W) (tCons (tLst tNil) (tCons (tVar 0) (tCons (tC (.int 5)) tNil)))))) (ts := fun a cls d => tAsg (tC (.str "no cord")) (gName 1)) rfl rfl ⟨rfl, by decide, Or.inl T.x_NoCord.g⟩ takes0 (fun W pn xe tk hp => (pss_one (ps_expr (pe_callS (ok_filling T) (hr.mono (by decide)) rfl T.g_filling T.d_filling.F.kp T.d_filling.b (fun σ => passAt tk σ) (pa_cons (pe_lst pa_nil) (pa_cons (pv 0) (pa_cons pe_int pa_nil))))))) (fun a oe cls d pn hz hf => (pss_one (ps_set (i := 1) sc_law_empty.nd rfl (by first | exact Or.inl rfl | exact Or.inr rfl) pe_str))))
    (pss_cons (ps_if (PW.pt (pw_or (pt_cmpR op_ne (pv 1) pe_str (nomark _)) (pw_or (pt_cmpR (op_neD hr.units) (pe_call (ok_looked T) (hr.mono (by decide)) rfl T.g_looked T.d_looked.F.kp T.d_looked.b .nil passL (pa_cons (pe_lst pa_nil) pa_nil)) (pe_lst pa_nil) (nomark _)) (pw_or1 (pt_cmpR (op_neD hr.units) (pe_call (ok_mended T) (hr.mono (by decide)) rfl T.g_mended T.d_mended.F.kp T.d_mended.b .nil passL (pa_cons (pe_lst pa_nil) pa_nil)) (pe_lst pa_nil) (nomark _)))))) (pss_one (ps_ret pe_bl)) pss_nil)
    (pss_one (ps_ret (pe_and (pe_cmpR (op_eqD hr.units) (pe_call (ok_numbers T) (hr.mono (by decide)) rfl T.g_numbers T.d_numbers.F.kp T.d_numbers.b .nil passL (pa_cons (pe_lst pa_nil) pa_nil)) (pe_lst pa_nil) (nomark _)) (pe_and (pe_cmpR (op_eqD hr.units) (pe_call (ok_told T) (hr.mono (by decide)) rfl T.g_told T.d_told.F.kp T.d_told.b .nil passL (pa_cons (pe_lst pa_nil) pa_nil)) (pe_lst pa_nil) (nomark _)) (pe_one (pe_cmpR (op_eqD hr.units) (pe_call (ok_first T) (hr.mono (by decide)) rfl T.g_first T.d_first.F.kp T.d_first.b .nil passL (pa_cons (pe_lst pa_nil) pa_nil)) (pe_lst pa_nil) (nomark _))))))))))
theorem ok_law_whole (T : Txt K mg) : FnOk P w K mg base CX0 1 (He.ga K "_law_whole") (fdAt K (("_law_whole" : Str), (none : Option Str))) ["found"] (sp_law_whole K) := by
  refine (T.d_law_whole.F.ok sc_law_whole (fun vs H Q E h => len_law_whole h) (fun cdv A outer s H vs Q E hr h => ⟨t_law_whole K E, PSs.nox ?_, pure_law_whole K vs H Q E h⟩) : FnOk P w K mg base CX0 (0 + 1) _ _ _ _)
  have hu := hu_of hr
  exact (pss_one (ps_ret (pe_and (pe_callB call_isi (by rfl) T.n_isinstance (by decide +kernel) (pa_cons (pv 0) (pa_cons (pe_bltn (by rfl) T.n_int (by decide +kernel) rfl) pa_nil))) (pe_one (pe_not (pe_callB call_isi (by rfl) T.n_isinstance (by decide +kernel) (pa_cons (pv 0) (pa_cons (pe_bltn (by rfl) T.n_bool (by decide +kernel) rfl) pa_nil))))))))
theorem ok_law_places (T : Txt K mg) : FnOk P w K mg base CX0 2 (He.ga K "_law_places") (fdAt K (("_law_places" : Str), (none : Option Str))) ["found", "due"] (sp_law_places K) := by
  refine (T.d_law_places.F.ok sc_law_places (fun vs H Q E h => len_law_places h) (fun cdv A outer s H vs Q E hr h => ⟨t_law_places K E, PSs.nox ?_, pure_law_places K vs H Q E h⟩) : FnOk P w K mg base CX0 (1 + 1) _ _ _ _)
  have hu := hu_of hr
  exact (pss_cons (ps_if (PW.pt (pw_or (pt_not (pt_val (pe_callB call_isi (by rfl) T.n_isinstance (by decide +kernel) (pa_cons (pv 0) (pa_cons (pe_bltn (by rfl) T.n_list (by decide +kernel) rfl) pa_nil))))) (pw_or1 (pt_cmpR op_ne (pe_callB call_len_seq (by rfl) T.n_len (by decide +kernel) (pa_cons (pv 0) pa_nil)) (pe_callB call_len_seq (by rfl) T.n_len (by decide +kernel) (pa_cons (pv 1) pa_nil)) (nomark _))))) (pss_one (ps_ret pe_bl)) pss_nil)
    (pss_cons (ps_for PassesOwn.never rfl (pi_range1 (by rfl) T.n_range (pa_cons (pe_callB call_len_seq (by rfl) T.n_len (by decide +kernel) (pa_cons (pv 1) pa_nil)) pa_nil)) (pg_name (i := 2) sc_law_places.nd rfl (by first | exact Or.inl rfl | exact Or.inr rfl)) (pss_cons (ps_if (PW.pt (pw_and (pt_cmpR op_isN (pe_ix ix_list (pv 1) (pv 2) (fun _ _ => rfl)) pe_non (nomark _)) (pw_and1 (pt_cmpR op_notN (pe_ix ix_list (pv 0) (pv 2) (fun _ _ => rfl)) pe_non (nomark _))))) (pss_one (ps_ret pe_bl)) pss_nil)
    (pss_one (ps_if (PW.pt (pw_and (pt_cmpR op_notN (pe_ix ix_list (pv 1) (pv 2) (fun _ _ => rfl)) pe_non (nomark _)) (pw_and1 (PW.pt (pw_or (pt_not (pt_val (pe_call (ok_law_whole T) (hr.mono (by decide)) rfl T.g_law_whole T.d_law_whole.F.kp T.d_law_whole.b .nil pass0 (pa_cons (pe_ix ix_list (pv 0) (pv 2) (fun _ _ => rfl)) pa_nil)))) (pw_or1 (pt_cmpR op_ne (pe_ix ix_list (pv 0) (pv 2) (fun _ _ => rfl)) (pe_ix ix_list (pv 1) (pv 2) (fun _ _ => rfl)) (nomark _)))))))) (pss_one (ps_ret pe_bl)) pss_nil))))
    (pss_one (ps_ret pe_bl))))
theorem ok_law_knots (T : Txt K mg) : FnOk P w K mg base CX0 2 (He.ga K "_law_knots") (fdAt K (("_law_knots" : Str), (none : Option Str))) ["found", "due"] (sp_law_knots K) := by
  refine (T.d_law_knots.F.ok sc_law_knots (fun vs H Q E h => len_law_knots h) (fun cdv A outer s H vs Q E hr h => ⟨t_law_knots K E, PSs.nox ?_, pure_law_knots K vs H Q E h⟩) : FnOk P w K mg base CX0 (1 + 1) _ _ _ _)
  have hu := hu_of hr
  exact (pss_cons (ps_if (PW.pt (pw_or (pt_not (pt_val (pe_callB call_isi (by rfl) T.n_isinstance (by decide +kernel) (pa_cons (pv 0) (pa_cons (pe_bltn (by rfl) T.n_list (by decide +kernel) rfl) pa_nil))))) (pw_or1 (pt_cmpR op_ne (pe_callB call_len_seq (by rfl) T.n_len (by decide +kernel) (pa_cons (pv 0) pa_nil)) pe_int (nomark _))))) (pss_one (ps_ret pe_bl)) pss_nil)
    (pss_cons (ps_for PassesOwn.never rfl (pi_range1 (by rfl) T.n_range (pa_cons pe_int pa_nil)) (pg_name (i := 2) sc_law_knots.nd rfl (by first | exact Or.inl rfl | exact Or.inr rfl)) (pss_one (ps_if (pt_cmpR op_isN (pe_ix ix_list (pv 1) (pv 2) (fun _ _ => rfl)) pe_non (nomark _)) (pss_one (ps_if (pt_cmpR op_notN (pe_ix ix_list (pv 0) (pv 2) (fun _ _ => rfl)) pe_non (nomark _)) (pss_one (ps_ret pe_bl)) pss_nil)) (pss_one (ps_if (PW.pt (pw_or (pt_not (pt_val (pe_call (ok_law_whole T) (hr.mono (by decide)) rfl T.g_law_whole T.d_law_whole.F.kp T.d_law_whole.b .nil pass0 (pa_cons (pe_ix ix_list (pv 0) (pv 2) (fun _ _ => rfl)) pa_nil)))) (pw_or1 (pt_cmpR op_ne (pe_ix ix_list (pv 0) (pv 2) (fun _ _ => rfl)) (pe_ix ix_list (pv 1) (pv 2) (fun _ _ => rfl)) (nomark _))))) (pss_one (ps_ret pe_bl)) pss_nil)))))
    (pss_one (ps_ret pe_bl))))
theorem ok_law_rows (T : Txt K mg) : FnOk P w K mg base CX0 3 (He.ga K "_law_rows") (fdAt K (("_law_rows" : Str), (none : Option Str))) ["found", "due"] (sp_law_rows K) := by
  refine (T.d_law_rows.F.ok sc_law_rows (fun vs H Q E h => len_law_rows h) (fun cdv A outer s H vs Q E hr h => ⟨t_law_rows K E, PSs.nox ?_, pure_law_rows K vs H Q E h⟩) : FnOk P w K mg base CX0 (2 + 1) _ _ _ _)
  have hu := hu_of hr
  exact (pss_cons (ps_if (PW.pt (pw_or (pt_not (pt_val (pe_callB call_isi (by rfl) T.n_isinstance (by decide +kernel) (pa_cons (pv 0) (pa_cons (pe_bltn (by rfl) T.n_list (by decide +kernel) rfl) pa_nil))))) (pw_or1 (pt_cmpR op_ne (pe_callB call_len_seq (by rfl) T.n_len (by decide +kernel) (pa_cons (pv 0) pa_nil)) (pe_callB call_len_seq (by rfl) T.n_len (by decide +kernel) (pa_cons (pv 1) pa_nil)) (nomark _))))) (pss_one (ps_ret pe_bl)) pss_nil)
    (pss_cons (ps_for PassesOwn.never rfl (pi_zip (by rfl) T.n_zip (pa_cons (pv 0) (pa_cons (pv 1) pa_nil))) (pg_tup rfl (pgs_cons (pg_name (i := 2) sc_law_rows.nd rfl (by first | exact Or.inl rfl | exact Or.inr rfl)) (pgs_cons (pg_name (i := 3) sc_law_rows.nd rfl (by first | exact Or.inl rfl | exact Or.inr rfl)) pgs_nil))) (pss_cons (ps_if (PW.pt (pw_or (pt_not (pt_val (pe_callB call_isi (by rfl) T.n_isinstance (by decide +kernel) (pa_cons (pv 2) (pa_cons (pe_bltn (by rfl) T.n_tuple (by decide +kernel) rfl) pa_nil))))) (pw_or (pt_cmpR op_ne (pe_callB call_len_seq (by rfl) T.n_len (by decide +kernel) (pa_cons (pv 2) pa_nil)) pe_int (nomark _)) (pw_or (pt_not (pt_val (pe_call (ok_law_whole T) (hr.mono (by decide)) rfl T.g_law_whole T.d_law_whole.F.kp T.d_law_whole.b .nil pass0 (pa_cons (pe_ix ix_tup (pv 2) pe_int (fun _ _ => rfl)) pa_nil)))) (pw_or1 (pt_cmpR op_ne (pe_ix ix_tup (pv 2) pe_int (fun _ _ => rfl)) (pe_ix ix_tup (pv 3) pe_int (fun _ _ => rfl)) (nomark _))))))) (pss_one (ps_ret pe_bl)) pss_nil)
    (pss_cons (ps_if (PW.pt (pw_or (PW.pt (pw_and (pt_cmpR op_isN (pe_ix ix_tup (pv 3) pe_int (fun _ _ => rfl)) pe_non (nomark _)) (pw_and1 (pt_cmpR op_notN (pe_ix ix_tup (pv 2) pe_int (fun _ _ => rfl)) pe_non (nomark _))))) (pw_or1 (PW.pt (pw_and (pt_cmpR op_notN (pe_ix ix_tup (pv 3) pe_int (fun _ _ => rfl)) pe_non (nomark _)) (pw_and1 (pt_not (pt_val (pe_call (ok_law_whole T) (hr.mono (by decide)) rfl T.g_law_whole T.d_law_whole.F.kp T.d_law_whole.b .nil pass0 (pa_cons (pe_ix ix_tup (pv 2) pe_int (fun _ _ => rfl)) pa_nil)))))))))) (pss_one (ps_ret pe_bl)) pss_nil)
    (pss_one (ps_if (PW.pt (pw_or (pt_cmpR op_ne (pe_ix ix_tup (pv 2) pe_int (fun _ _ => rfl)) (pe_ix ix_tup (pv 3) pe_int (fun _ _ => rfl)) (nomark _)) (pw_or1 (pt_not (pt_val (pe_call (ok_law_knots T) (hr.mono (by decide)) rfl T.g_law_knots T.d_law_knots.F.kp T.d_law_knots.b .nil pass0 (pa_cons (pe_ix ix_tup (pv 2) pe_int (fun _ _ => rfl)) (pa_cons (pe_ix ix_tup (pv 3) pe_int (fun _ _ => rfl)) pa_nil)))))))) (pss_one (ps_ret pe_bl)) pss_nil)))))
    (pss_one (ps_ret pe_bl))))
theorem ok_law (T : Txt K mg) : FnOk P w K mg base CX0 12 (He.ga K "law") (fdAt K (("law" : Str), (none : Option Str))) ["script"] (sp_law K) := by
  refine (T.d_law.F.ok sc_law (fun vs H Q E h => len_law h) (fun cdv A outer s H vs Q E hr h => ⟨t_law K E, PSs.nox ?_, pure_law K T.e_Taken_Taken T.e_NoCord_Taken T.e_NoCord_NoCord T.c_Taken T.c_NoCord T.k_Taken_CordError T.k_Taken_NoCord T.k_NoCord_CordError vs H Q E h⟩) : FnOk P w K mg base CX0 (11 + 1) _ _ _ _)
  have hu := hu_of hr
  exact (pss_cons (ps_if (pt_not (pt_val (pe_call (ok_law_empty T) (hr.mono (by decide)) rfl T.g_law_empty T.d_law_empty.F.kp T.d_law_empty.b .nil pass0 (pa_cons (pe_op op_mod (pe_call (ok_law_cell_at T) (hr.mono (by decide)) rfl T.g_law_cell_at T.d_law_cell_at.F.kp T.d_law_cell_at.b .nil pass0 (pa_cons (pv 0) (pa_cons pe_int pa_nil))) pe_int) pa_nil)))) (pss_one (ps_ret pe_bl)) pss_nil)
    (pss_cons (ps_set (i := 1) sc_law.nd rfl (by first | exact Or.inl rfl | exact Or.inr rfl) (pe_call (ok_law_drawn T) (hr.mono (by decide)) rfl T.g_law_drawn T.d_law_drawn.F.kp T.d_law_drawn.b .nil pass0 (pa_cons (pv 0) pa_nil)))
    (pss_cons (ps_set (i := 2) sc_law.nd rfl (by first | exact Or.inl rfl | exact Or.inr rfl) (pe_call (ok_law_due T) (hr.mono (by decide)) rfl T.g_law_due T.d_law_due.F.kp T.d_law_due.b .nil pass0 (pa_cons (pv 1) pa_nil)))
    (pss_cons (ps_set (i := 3) sc_law.nd rfl (by first | exact Or.inl rfl | exact Or.inr rfl) (pe_call (ok_law_copy T) (hr.mono (by decide)) rfl T.g_law_copy T.d_law_copy.F.kp T.d_law_copy.b .nil pass0 (pa_cons (pv 1) pa_nil)))
    (pss_cons (ps_set (i := 4) sc_law.nd rfl (by first | exact Or.inl rfl | exact Or.inr rfl) pe_non)
    (pss_cons (ps_set (i := 5) sc_law.nd rfl (by first | exact Or.inl rfl | exact Or.inr rfl) pe_str)
    (pss_cons (ps_set (i := 6) sc_law.nd rfl (by first | exact Or.inl rfl | exact Or.inr rfl) pe_bl)
    (pss_cons (ps_try_manyA (Wout := fun _ _ _ _ => False) (l := [((Value.ref (He.ga K "Taken")), 7, fun a cls d => tSeq (tAsg (tC (.str "taken")) (gName 5)) (tAsg (tAndV (tCB (rIsX K cls d a) (tCons (tVar 7) (tCons (tC (.ref (He.ga K "CordError"))) tNil))) (tNotV (tCB (rIsX K cls d a) (tCons (tVar 7) (tCons (tC (.ref (He.ga K "NoCord"))) tNil))))) (gName 6))), ((Value.ref (He.ga K "NoCord")), 7, fun a cls d => tSeq (tAsg (tC (.str "no cord")) (gName 5)) (tAsg (tCB (rIsX K cls d a) (tCons (tVar 7) (tCons (tC (.ref (He.ga K "CordError"))) tNil))) (gName 6)))]) (tb := (fun W => tAsg (tCallS (sp_looked K) (WE W) (tCons (tVar 3) tNil)) (gName 4))) rfl rfl takes0 (fun W pn xe tk hp => (pss_one (ps_set (i := 4) sc_law.nd rfl (by first | exact Or.inl rfl | exact Or.inr rfl) (pe_callS (ok_looked T) (hr.mono (by decide)) rfl T.g_looked T.d_looked.F.kp T.d_looked.b (fun σ => passAt tk σ) (pa_cons (pv 3) pa_nil))))) (HdaOk.cons ⟨rfl, by decide, Or.inl T.x_Taken.g⟩ sc_law.nd rfl rfl (fun a oe cls d pn hz hf => (pss_cons (ps_set (i := 5) sc_law.nd rfl (by first | exact Or.inl rfl | exact Or.inr rfl) pe_str)
    (pss_one (ps_set (i := 6) sc_law.nd rfl (by first | exact Or.inl rfl | exact Or.inr rfl) (pe_and (pe_callB (call_isX hz hf) (by rfl) T.n_isinstance (by decide +kernel) (pa_cons (pv 7) (pa_cons (pe_glob rfl T.x_CordError.g rfl) pa_nil))) (pe_one (pe_not (pe_callB (call_isX hz hf) (by rfl) T.n_isinstance (by decide +kernel) (pa_cons (pv 7) (pa_cons (pe_glob rfl T.x_NoCord.g rfl) pa_nil)))))))))) (HdaOk.cons ⟨rfl, by decide, Or.inl T.x_NoCord.g⟩ sc_law.nd rfl rfl (fun a oe cls d pn hz hf => (pss_cons (ps_set (i := 5) sc_law.nd rfl (by first | exact Or.inl rfl | exact Or.inr rfl) pe_str)
    (pss_one (ps_set (i := 6) sc_law.nd rfl (by first | exact Or.inl rfl | exact Or.inr rfl) (pe_callB (call_isX hz hf) (by rfl) T.n_isinstance (by decide +kernel) (pa_cons (pv 7) (pa_cons (pe_glob rfl T.x_CordError.g rfl) pa_nil))))))) HdaOk.nil)))
    (pss_cons (ps_if (PW.pt (pw_or (pt_not (pt_val (pe_call (ok_law_rows T) (hr.mono (by decide)) rfl T.g_law_rows T.d_law_rows.F.kp T.d_law_rows.b .nil pass0 (pa_cons (pv 3) (pa_cons (pv 1) pa_nil))))) (pw_or1 (pt_not (pt_val (pv 6)))))) (pss_one (ps_ret pe_bl)) pss_nil)
    (pss_cons (ps_if (pt_cmpR op_ne (pv 5) pe_str (nomark _)) (pss_one (ps_ret (pe_cmpR op_eq (pv 5) (pv 2) (nomark _)))) pss_nil)
    (pss_cons (ps_if (PW.pt (pw_or (pt_not (pt_val (pe_callB call_isi (by rfl) T.n_isinstance (by decide +kernel) (pa_cons (pv 2) (pa_cons (pe_bltn (by rfl) T.n_list (by decide +kernel) rfl) pa_nil))))) (pw_or1 (pt_not (pt_val (pe_call (ok_law_places T) (hr.mono (by decide)) rfl T.g_law_places T.d_law_places.F.kp T.d_law_places.b .nil pass0 (pa_cons (pv 4) (pa_cons (pv 2) pa_nil)))))))) (pss_one (ps_ret pe_bl)) pss_nil)
    (pss_cons (ps_expr (pe_bm PySem.F.plainAttrs_list PySem.F.slot_list_append PySem.F.type_list_append mt_append (pv 4) (pa_cons pe_int pa_nil)))
    (pss_one (ps_ret (pe_call (ok_law_places T) (hr.mono (by decide)) rfl T.g_law_places T.d_law_places.F.kp T.d_law_places.b .nil pass0 (pa_cons (pe_call (ok_looked T) (hr.mono (by decide)) rfl T.g_looked T.d_looked.F.kp T.d_looked.b .nil passL (pa_cons (pv 1) pa_nil)) (pa_cons (pv 2) pa_nil)))))))))))))))))
end
/-! ### the head -/
def fn : List He.DefD := [ddOf (("_law_cell_at" : Str), (none : Option Str)) "_law_cell_at" "_law_cell_at" s_law_cell_at,
  ddOf (("_law_copy" : Str), (none : Option Str)) "_law_copy" "_law_copy" s_law_copy,
  ddOf (("_law_figures" : Str), (none : Option Str)) "_law_figures" "_law_figures" s_law_figures,
  ddOf (("_law_drawn" : Str), (none : Option Str)) "_law_drawn" "_law_drawn" s_law_drawn,
  ddOf (("_law_due" : Str), (none : Option Str)) "_law_due" "_law_due" s_law_due,
  ddOf (("figures" : Str), (none : Option Str)) "figures" "figures" s_figures,
  ddOf (("fixed" : Str), (none : Option Str)) "fixed" "fixed" s_fixed,
  ddOf (("sums" : Str), (none : Option Str)) "sums" "sums" s_sums,
  ddOf (("without" : Str), (none : Option Str)) "without" "without" s_without,
  ddOf (("beside" : Str), (none : Option Str)) "beside" "beside" s_beside,
  ddOf (("fits" : Str), (none : Option Str)) "fits" "fits" s_fits,
  ddOf (("ways" : Str), (none : Option Str)) "ways" "ways" s_ways,
  ddOf (("from_below" : Str), (none : Option Str)) "from_below" "from_below" s_from_below,
  ddOf (("hanging" : Str), (none : Option Str)) "hanging" "hanging" s_hanging,
  ddOf (("looked" : Str), (none : Option Str)) "looked" "looked" s_looked,
  ddOf (("marked" : Str), (none : Option Str)) "marked" "marked" s_marked,
  ddOf (("meets" : Str), (none : Option Str)) "meets" "meets" s_meets,
  ddOf (("numbers" : Str), (none : Option Str)) "numbers" "numbers" s_numbers,
  ddOf (("first" : Str), (none : Option Str)) "first" "first" s_first,
  ddOf (("filling" : Str), (none : Option Str)) "filling" "filling" s_filling,
  ddOf (("told" : Str), (none : Option Str)) "told" "told" s_told,
  ddOf (("mended" : Str), (none : Option Str)) "mended" "mended" s_mended,
  ddOf (("_law_empty" : Str), (none : Option Str)) "_law_empty" "_law_empty" s_law_empty,
  ddOf (("_law_whole" : Str), (none : Option Str)) "_law_whole" "_law_whole" s_law_whole,
  ddOf (("_law_places" : Str), (none : Option Str)) "_law_places" "_law_places" s_law_places,
  ddOf (("_law_knots" : Str), (none : Option Str)) "_law_knots" "_law_knots" s_law_knots,
  ddOf (("_law_rows" : Str), (none : Option Str)) "_law_rows" "_law_rows" s_law_rows,
  ddOf (("law" : Str), (none : Option Str)) "law" "law" s_law]
def fa : List Pd := [(He.Fa.glo "_law_cell_at").ok,
  (He.Fa.glo "_law_copy").ok,
  (He.Fa.glo "_law_figures").ok,
  (He.Fa.glo "_law_drawn").ok,
  (He.Fa.glo "_law_due").ok,
  (He.Fa.glo "figures").ok,
  (He.Fa.glo "fixed").ok,
  (He.Fa.glo "sums").ok,
  (He.Fa.glo "without").ok,
  (He.Fa.glo "beside").ok,
  (He.Fa.glo "fits").ok,
  (He.Fa.glo "ways").ok,
  (He.Fa.glo "from_below").ok,
  (He.Fa.glo "hanging").ok,
  (He.Fa.glo "looked").ok,
  (He.Fa.glo "marked").ok,
  (He.Fa.glo "meets").ok,
  (He.Fa.glo "numbers").ok,
  (He.Fa.glo "first").ok,
  (He.Fa.glo "filling").ok,
  (He.Fa.glo "told").ok,
  (He.Fa.glo "mended").ok,
  (He.Fa.glo "_law_empty").ok,
  (He.Fa.glo "_law_whole").ok,
  (He.Fa.glo "_law_places").ok,
  (He.Fa.glo "_law_knots").ok,
  (He.Fa.glo "_law_rows").ok,
  (He.Fa.glo "law").ok,
  (He.Fa.glo "CordError").ok,
  (He.Fa.exc "CordError").ok,
  (He.Fa.glo "Frayed").ok,
  (He.Fa.exc "Frayed").ok,
  (He.Fa.glo "NoCord").ok,
  (He.Fa.exc "NoCord").ok,
  (He.Fa.glo "NoWay").ok,
  (He.Fa.exc "NoWay").ok,
  (He.Fa.glo "Taken").ok,
  (He.Fa.exc "Taken").ok,
  (He.Fa.int "MOST" 999).ok,
  (He.Fa.free "bool").ok,
  (He.Fa.free "enumerate").ok,
  (He.Fa.free "int").ok,
  (He.Fa.free "isinstance").ok,
  (He.Fa.free "len").ok,
  (He.Fa.free "list").ok,
  (He.Fa.free "range").ok,
  (He.Fa.free "reversed").ok,
  (He.Fa.free "set").ok,
  (He.Fa.free "sorted").ok,
  (He.Fa.free "tuple").ok,
  (He.Fa.free "zip").ok,
  exmB "NoCord" "NoCord" true,
  exmB "Taken" "Taken" true,
  exmB "NoCord" "Taken" false,
  excCB "Taken",
  excCB "NoCord",
  kiB "Taken" "CordError" true,
  kiB "Taken" "NoCord" false,
  kiB "NoCord" "CordError" true]
abbrev R : PySem.W.OpenRow := PySem.W.OpenLaw.row PySem.Challenge.rw_cordkeep_k16_records_looked_through
abbrev hk : PySem.W.Hook := hookP 4 fa fn
def ob (s : PySem.W.SharedT) : He.AlD := obsPG 4 fa fn (HandSHeadRun.getT s)
theorem ob_eq (s : PySem.W.SharedT) : ob s = hk.obs s.abs := obsPG_eq (HandSHeadRun.getT_eq s)
def loose0 : List Str := ["CordError", "NoCord", "Taken", "Frayed", "NoWay", "MOST", "figures", "fits", "looked", "ways", "sums", "hanging", "from_below", "marked", "meets", "without", "beside", "numbers", "told", "fixed", "first", "filling", "mended", "_law_cell_at", "_law_whole", "_law_figures", "_law_knots", "_law_rows", "_law_copy", "_law_drawn"]
def loose1 : List Str := ["_law_due", "_law_places", "_law_empty"]
def loose : List Str := loose0 ++ loose1
theorem run (w : World) : HandSHeadRun.RunEq R (PySem.W.view R.prog [38]) hk ob 4000 loose w := by
  intro os
  kernel_rfl
theorem txt {K : PySem.W.Frag} {h : Heap} {mg : Str → Option Value} (X : K.In h) (G : h.Ns mainGlobals mg) (c : SaysP fa fn K) : Txt K mg where
  d_law_cell_at := defAt_mk c 0 rfl fun _ _ _ _ _ _ us hl => match us, hl with | [_, _], _ => rfl
  g_law_cell_at := He.glo_ok X G (c.fact 0 rfl)
  d_law_copy := defAt_mk c 1 rfl fun _ _ _ _ _ _ us hl => match us, hl with | [_], _ => rfl
  g_law_copy := He.glo_ok X G (c.fact 1 rfl)
  d_law_figures := defAt_mk c 2 rfl fun _ _ _ _ _ _ us hl => match us, hl with | [_], _ => rfl
  g_law_figures := He.glo_ok X G (c.fact 2 rfl)
  d_law_drawn := defAt_mk c 3 rfl fun _ _ _ _ _ _ us hl => match us, hl with | [_], _ => rfl
  g_law_drawn := He.glo_ok X G (c.fact 3 rfl)
  d_law_due := defAt_mk c 4 rfl fun _ _ _ _ _ _ us hl => match us, hl with | [_], _ => rfl
  g_law_due := He.glo_ok X G (c.fact 4 rfl)
  d_figures := defAt_mk c 5 rfl fun _ _ _ _ _ _ us hl => match us, hl with | [_], _ => rfl
  g_figures := He.glo_ok X G (c.fact 5 rfl)
  d_fixed := defAt_mk c 6 rfl fun _ _ _ _ _ _ us hl => match us, hl with | [_, _, _], _ => rfl
  g_fixed := He.glo_ok X G (c.fact 6 rfl)
  d_sums := defAt_mk c 7 rfl fun _ _ _ _ _ _ us hl => match us, hl with | [_], _ => rfl
  g_sums := He.glo_ok X G (c.fact 7 rfl)
  d_without := defAt_mk c 8 rfl fun _ _ _ _ _ _ us hl => match us, hl with | [_], _ => rfl
  g_without := He.glo_ok X G (c.fact 8 rfl)
  d_beside := defAt_mk c 9 rfl fun _ _ _ _ _ _ us hl => match us, hl with | [_, _], _ => rfl
  g_beside := He.glo_ok X G (c.fact 9 rfl)
  d_fits := defAt_mk c 10 rfl fun _ _ _ _ _ _ us hl => match us, hl with | [_, _], _ => rfl
  g_fits := He.glo_ok X G (c.fact 10 rfl)
  d_ways := defAt_mk c 11 rfl fun _ _ _ _ _ _ us hl => match us, hl with | [_], _ => rfl
  g_ways := He.glo_ok X G (c.fact 11 rfl)
  d_from_below := defAt_mk c 12 rfl fun _ _ _ _ _ _ us hl => match us, hl with | [_, _], _ => rfl
  g_from_below := He.glo_ok X G (c.fact 12 rfl)
  d_hanging := defAt_mk c 13 rfl fun _ _ _ _ _ _ us hl => match us, hl with | [_], _ => rfl
  g_hanging := He.glo_ok X G (c.fact 13 rfl)
  d_looked := defAt_mk c 14 rfl fun _ _ _ _ _ _ us hl => match us, hl with | [_], _ => rfl
  g_looked := He.glo_ok X G (c.fact 14 rfl)
  d_marked := defAt_mk c 15 rfl fun _ _ _ _ _ _ us hl => match us, hl with | [_], _ => rfl
  g_marked := He.glo_ok X G (c.fact 15 rfl)
  d_meets := defAt_mk c 16 rfl fun _ _ _ _ _ _ us hl => match us, hl with | [_, _, _], _ => rfl
  g_meets := He.glo_ok X G (c.fact 16 rfl)
  d_numbers := defAt_mk c 17 rfl fun _ _ _ _ _ _ us hl => match us, hl with | [_], _ => rfl
  g_numbers := He.glo_ok X G (c.fact 17 rfl)
  d_first := defAt_mk c 18 rfl fun _ _ _ _ _ _ us hl => match us, hl with | [_], _ => rfl
  g_first := He.glo_ok X G (c.fact 18 rfl)
  d_filling := defAt_mk c 19 rfl fun _ _ _ _ _ _ us hl => match us, hl with | [_, _, _], _ => rfl
  g_filling := He.glo_ok X G (c.fact 19 rfl)
  d_told := defAt_mk c 20 rfl fun _ _ _ _ _ _ us hl => match us, hl with | [_], _ => rfl
  g_told := He.glo_ok X G (c.fact 20 rfl)
  d_mended := defAt_mk c 21 rfl fun _ _ _ _ _ _ us hl => match us, hl with | [_], _ => rfl
  g_mended := He.glo_ok X G (c.fact 21 rfl)
  d_law_empty := defAt_mk c 22 rfl fun _ _ _ _ _ _ us hl => match us, hl with | [_], _ => rfl
  g_law_empty := He.glo_ok X G (c.fact 22 rfl)
  d_law_whole := defAt_mk c 23 rfl fun _ _ _ _ _ _ us hl => match us, hl with | [_], _ => rfl
  g_law_whole := He.glo_ok X G (c.fact 23 rfl)
  d_law_places := defAt_mk c 24 rfl fun _ _ _ _ _ _ us hl => match us, hl with | [_, _], _ => rfl
  g_law_places := He.glo_ok X G (c.fact 24 rfl)
  d_law_knots := defAt_mk c 25 rfl fun _ _ _ _ _ _ us hl => match us, hl with | [_, _], _ => rfl
  g_law_knots := He.glo_ok X G (c.fact 25 rfl)
  d_law_rows := defAt_mk c 26 rfl fun _ _ _ _ _ _ us hl => match us, hl with | [_, _], _ => rfl
  g_law_rows := He.glo_ok X G (c.fact 26 rfl)
  d_law := defAt_mk c 27 rfl fun _ _ _ _ _ _ us hl => match us, hl with | [_], _ => rfl
  g_law := He.glo_ok X G (c.fact 27 rfl)
  x_CordError := excAt_mk X G (c.fact 28 rfl) (c.fact 29 rfl)
  x_Frayed := excAt_mk X G (c.fact 30 rfl) (c.fact 31 rfl)
  x_NoCord := excAt_mk X G (c.fact 32 rfl) (c.fact 33 rfl)
  x_NoWay := excAt_mk X G (c.fact 34 rfl) (c.fact 35 rfl)
  x_Taken := excAt_mk X G (c.fact 36 rfl) (c.fact 37 rfl)
  g_MOST := He.int_ok X G (c.fact 38 rfl)
  n_bool := He.free_ok X G (c.fact 39 rfl)
  n_enumerate := He.free_ok X G (c.fact 40 rfl)
  n_int := He.free_ok X G (c.fact 41 rfl)
  n_isinstance := He.free_ok X G (c.fact 42 rfl)
  n_len := He.free_ok X G (c.fact 43 rfl)
  n_list := He.free_ok X G (c.fact 44 rfl)
  n_range := He.free_ok X G (c.fact 45 rfl)
  n_reversed := He.free_ok X G (c.fact 46 rfl)
  n_set := He.free_ok X G (c.fact 47 rfl)
  n_sorted := He.free_ok X G (c.fact 48 rfl)
  n_tuple := He.free_ok X G (c.fact 49 rfl)
  n_zip := He.free_ok X G (c.fact 50 rfl)
  e_NoCord_NoCord := exmB_ok (c.fact 51 rfl)
  e_Taken_Taken := exmB_ok (c.fact 52 rfl)
  e_NoCord_Taken := exmB_ok (c.fact 53 rfl)
  c_Taken := excCB_ok (c.fact 54 rfl)
  c_NoCord := excCB_ok (c.fact 55 rfl)
  k_Taken_CordError := kiB_ok (c.fact 56 rfl)
  k_Taken_NoCord := kiB_ok (c.fact 57 rfl)
  k_NoCord_CordError := kiB_ok (c.fact 58 rfl)
end K16
open PySem PySem.W PySem.Calls PyProof.Rows
set_option maxRecDepth 100000 in
set_option maxHeartbeats 0 in
theorem PySem.Challenge.cw_cordkeep_k16_records_looked_through_holds : PySem.Challenge.rw_cordkeep_k16_records_looked_through.Holds := by
  w_on; o_law
  refine HandSHeadRun.head_any (r := OpenLaw.row PySem.Challenge.rw_cordkeep_k16_records_looked_through) (q := view (OpenLaw.row PySem.Challenge.rw_cordkeep_k16_records_looked_through).prog [38]) (H := K16.hk) (ob := K16.ob) (M := 4000) (loose := K16.loose) (d := HandSHeadRun.topDef (OpenLaw.row PySem.Challenge.rw_cordkeep_k16_records_looked_through).prog 38) (kwd := []) K16.ob_eq
    (by kernel_rfl) (fun s => by kernel_rfl) K16.run (by kernel_rfl) (by kernel_rfl) (by kernel_rfl) (by rfl) (by first | assumption | decide +kernel) (by decide +kernel) ⟨rfl, rfl, rfl, rfl, rfl, by decide +kernel⟩ ?hw ?hc
  case hw => w_witness2
  case hc =>
    refine L2.walk_ofE (l := PySem.Challenge.rw_cordkeep_k16_records_looked_through) (n := 63) (k := 12) (x := "script") (CX := L2.CX0) rfl (by decide) (by kernel_rfl) ⟨rfl, by decide, by decide⟩ ?F (fun _ _ _ _ z => z)
    intro w mg fa h Y G hmg0
    obtain ⟨K, KX, c⟩ := Y
    have hmg : mg ("law" : PySem.Str) = some (.ref fa) := by
      have e : (HandSHeadRun.topDef (OpenLaw.row PySem.Challenge.rw_cordkeep_k16_records_looked_through).prog 38).name = ("law" : PySem.Str) := by kernel_rfl
      rw [← e]
      exact hmg0
    have T := K16.txt KX G c
    have e := hmg.symm.trans T.g_law
    cases e
    have b := L2.FunD.bindsA (ps := ["script"]) T.d_law.F fun _ _ _ _ _ _ us hl => match us, hl with | [_], _ => rfl
    exact ⟨K, _, Cor.sp_law K, KX, fun s v => b s [v] rfl, fun H a ns hl _ hS => ⟨a, ns, rfl, hS, hl, fun _ => rfl⟩, fun base _ _ => K16.ok_law T⟩

#print axioms PySem.Challenge.cw_cordkeep_k16_records_looked_through_holds
