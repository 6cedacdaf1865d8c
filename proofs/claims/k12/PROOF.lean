import PyProof.Rows.All
import Wide.All
import OpenK.AllK
import Wide.FinOn
import HandS.ForMost
import HandS.ForExc
import HandS.More
import HandS.Conv
import HandS.Codes
import HandS.Strs
import HandS.SortInts
import HandS.TryMany
import HandS.ExcIs
import HandS.IsInst
import HandS.Deep
import HandS.Zip
import HandS.Flow
import HandS.Rev
import HandS.TupLe
import HandS.ListEq
import HandS.Defaults
import HandS.Head0
import HandS.Head1
import HandS.Head2
import HandS.HeadEnd
import HandS.HeadHook1
import HandS.HeadHook2
import PySem.Challenge.RW_cordkeep_k12_whole_book
set_option Elab.async false
set_option linter.all false
set_option maxRecDepth 100000
set_option maxHeartbeats 4000000
/-! ## CorA -/
/-! ### the head's facts: any tests of the written part, and the defs -/
namespace Cor
open PySem PySem.Spec PyProof.Rows L2
abbrev Pd : Type := PySem.W.Frag → Bool
def obsP (ps : List Pd) (fn : List He.DefD) (K : PySem.W.Frag) : He.AlD := ((ps.all fun p => p K) && fn.all fun d => d.ok K, fn.map fun d => He.fnW K d.at_)
def SaysP (ps : List Pd) (fn : List He.DefD) (K : PySem.W.Frag) : Prop := obsP ps fn K = He.valD fn
def obsPG (n : Nat) (ps : List Pd) (fn : List He.DefD) (g : Addr → Option Obj) : He.AlD := obsP ps fn (He.frG g (He.asD g n))
def hookP (n : Nat) (ps : List Pd) (fn : List He.DefD) : PySem.W.Hook where
  α := He.AlD
  obs := fun s => obsPG n ps fn s.heap.get?
  val := fun _ => He.valD fn
  says := fun _ h => ∃ K : PySem.W.Frag, K.In h ∧ SaysP ps fn K
  of := fun _ _ e => ⟨_, He.frG_in, e⟩
  keeps := fun _ _ _ ⟨K, hK, c⟩ k => ⟨K, PySem.W.Frag.In.keeps hK k, c⟩
theorem obsPG_eq {n : Nat} {ps : List Pd} {fn : List He.DefD} {g : Addr → Option Obj} {s : Shared} (h : ∀ a, g a = s.heap.get? a) : obsPG n ps fn g = (hookP n ps fn).obs s := by
  have e : g = s.heap.get? := funext h
  rw [e] <;> rfl
section
variable {ps : List Pd} {fn : List He.DefD} {K : PySem.W.Frag}
theorem SaysP.fact (c : SaysP ps fn K) (i : Nat) {p : Pd} (h : ps[i]? = some p := by rfl) : p K = true := by
  have c1 := (He.ba (show ((ps.all fun p => p K) && fn.all fun d => d.ok K) = true from congrArg (fun z : He.AlD => z.1) c)).1
  exact List.all_eq_true.mp c1 p (List.mem_of_getElem? h)
theorem SaysP.def_ (c : SaysP ps fn K) (i : Nat) {d : He.DefD} (h : fn[i]? = some d := by rfl) : ∃ fd, FunD K d.name d.qual d.params d.body d.scope (d.dvs K) (d.kws K) (He.fAd K d.at_) fd := by
  have c2 := (He.ba (show ((ps.all fun p => p K) && fn.all fun d => d.ok K) = true from congrArg (fun z : He.AlD => z.1) c)).2
  have e : fn.map (fun d => He.fnW K d.at_) = fn.map He.DefD.val := congrArg (fun z : He.AlD => z.2) c
  have e2 : (fn.map fun d => He.fnW K d.at_)[i]? = (fn.map He.DefD.val)[i]? := by rw [e]
  rw [List.getElem?_map, List.getElem?_map, h] at e2
  exact He.DefD.funD (Option.some.inj e2) (List.all_eq_true.mp c2 d (List.mem_of_getElem? h))
end
/-! ### a def of the text by its place -/
def fdAt (K : PySem.W.Frag) (p : Str × Option Str) : FuncData := match K.lookup (He.fAd K p) with
  | some ⟨_, _, .func fd, _⟩ => fd
  | _ => PySem.W.fnOf "" "" ⟨[], [], none, [], [], none, []⟩ [] ⟨.function, [], false, false, []⟩ .none .none .none .none none .none .none
structure DefAt (K : PySem.W.Frag) (p : Str × Option Str) (x qual : Str) (st : Stmt) (ps : List Str) : Prop where
  F : FunD K x qual (defArgs st) (defBody st) (defScope st) [] [] (He.fAd K p) (fdAt K p)
  b : Binds K (fdAt K p) ps []
abbrev ddOf (p : Str × Option Str) (x qual : Str) (st : Stmt) : He.DefD := { at_ := p, name := x, qual := qual, params := defArgs st, body := defBody st, scope := defScope st }
theorem defAt_mk {ps' : List Pd} {fn : List He.DefD} {K : PySem.W.Frag} {p : Str × Option Str} {x qual : Str} {st : Stmt} {ps : List Str} (c : SaysP ps' fn K) (i : Nat) (h : fn[i]? = some (ddOf p x qual st))
    (hb : ∀ (kV doc pm : Value) (an : Option Addr) (cdv ct : Value) (us : List Value), us.length = ps.length → bindArgs (PySem.W.fnOf x qual (defArgs st) (defBody st) (defScope st) .none kV doc pm an cdv ct) ⟨us, []⟩ = pure (ps.zip us)) : DefAt K p x qual st ps := by
  obtain ⟨fd, F⟩ := c.def_ i h
  have F' : FunD K x qual (defArgs st) (defBody st) (defScope st) [] [] (He.fAd K p) fd := F
  have e : fdAt K p = fd := by
    obtain ⟨oc, od, dV, kV, doc, pm, an, cdv, ct, osl, rfl, lk, _⟩ := F'.ex
    unfold fdAt
    rw [lk] <;> rfl
  have b : Binds K fd ps [] := F'.bindsN hb
  rw [← e] at F' b
  exact ⟨F', b⟩
/-! ### an own exception class -/
structure ExcAt (K : PySem.W.Frag) (mg : Str → Option Value) (x : Str) : Prop where
  g : mg x = some (.ref (He.ga K x))
  ex : PySem.W.excIn K (He.ga K x) He.veBase "ValueError.__new__" = true
  kp : PySem.W.keepIn K (.ref (He.ga K x)) = true
  sb : PySem.W.subIn K (.ref (He.ga K x)) (.type "BaseException") = some true
  ty : PySem.W.typeIn K (.ref (He.ga K x)) = some (.type "type")
theorem excAt_mk {K : PySem.W.Frag} {h : Heap} {mg : Str → Option Value} {x : Str} (X : K.In h) (G : h.Ns mainGlobals mg) (c1 : (He.Fa.glo x).ok K = true) (c2 : (He.Fa.exc x).ok K = true) : ExcAt K mg x := by
  obtain ⟨a, b, c, d⟩ := He.exc_ok c2
  exact ⟨He.glo_ok X G c1, a, b, c, d⟩

/-! ### readings, step by step -/
section
variable {σ : L2.St} {H : Hp} {D : Ends} {t u : TS} {te ta tb tc : TE} {v x y : V} {Q : VK} {c : TT} {g : TG} {i : Nat} {K : PySem.W.Frag}
theorem g_seq (h : t { D with nx := u D } σ H) : tSeq t u D σ H := h
theorem g_asg (h : te σ H fun x H1 => g x σ H1 D.nx) : tAsg te g D σ H := h
theorem g_ret (h : te σ H D.rt) : tRet te D σ H := h
theorem g_drop (h : te σ H fun _ H1 => D.nx σ H1) : tDrop te D σ H := h
theorem g_ifs (h : c σ H fun b H1 => if b = true then t D σ H1 else u D σ H1) : tIfS c t u D σ H := h
theorem g_next (h : D.nx σ H) : tNext D σ H := h
theorem g_brk (h : D.bk σ H) : tBreak D σ H := h
theorem g_cont (h : D.ct σ H) : tCont D σ H := h
theorem g_name {Qs : L2.St → Hp → Prop} {σ' : L2.St} (e : σ.set i (some v) = σ') (h : Qs σ' H) : gName i v σ H Qs := by
  show Qs (σ.set i (some v)) H
  rw [e]
  exact h
theorem g_var (e : σ[i]? = some (some v)) (h : Q v H) : tVar i σ H Q := ⟨v, e, h⟩
theorem g_c (h : Q v H) : tC v σ H Q := h
theorem g_op {r : R2} (h : ta σ H fun x H1 => tb σ H1 fun y H2 => r x y H2 Q) : tOp r ta tb σ H Q := h
theorem g_un {r : V → Hp → VK → Prop} (h : ta σ H fun x H1 => r x H1 Q) : tUn r ta σ H Q := h
theorem g_I0 {f : Int → Int → V} {a b : Int} (h : Q (f a b) H) : rI0 f (.int a) (.int b) H Q := ⟨a, b, rfl, rfl, h⟩
theorem g_I {C : Int → Int → Prop} {f : Int → Int → V} {a b : Int} (hc : C a b) (h : Q (f a b) H) : rI C f (.int a) (.int b) H Q := ⟨a, b, rfl, rfl, hc, h⟩
theorem g_U {f : Int → V} {a : Int} (h : Q (f a) H) : rU f (.int a) H Q := ⟨a, rfl, h⟩
theorem g_eq (hs : scal x y = true) (h : Q (.bl (decide (x = y))) H) : rEq x y H Q := ⟨hs, h⟩
theorem g_ne (hs : scal x y = true) (h : Q (.bl (!decide (x = y))) H) : rNe x y H Q := ⟨hs, h⟩
theorem g_eqI {a b : Int} (h : Q (.bl (decide (a = b))) H) : rEq (.int a) (.int b) H Q := ⟨rfl, by
  have e : decide (V.int a = V.int b) = decide (a = b) := by
    by_cases q : a = b
    · subst q; simp
    · rw [decide_eq_false q, decide_eq_false (fun z => q (V.int.inj z))]
  rw [e]; exact h⟩
theorem g_neI {a b : Int} (h : Q (.bl (!decide (a = b))) H) : rNe (.int a) (.int b) H Q := ⟨rfl, by
  have e : decide (V.int a = V.int b) = decide (a = b) := by
    by_cases q : a = b
    · subst q; simp
    · rw [decide_eq_false q, decide_eq_false (fun z => q (V.int.inj z))]
  rw [e]; exact h⟩
theorem g_bl {b : Bool} {Qb : Bool → Hp → Prop} (h : Qb b H) : ∃ k, V.bl b = V.bl k ∧ Qb k H := ⟨b, rfl, h⟩
theorem g_test {Qb : Bool → Hp → Prop} (h : te σ H fun x H' => ∃ k, x = .bl k ∧ Qb k H') : tTest te σ H Qb := h
theorem g_B {Qb : Bool → Hp → Prop} (h : te σ H fun x H' => ∃ k, x = .bl k ∧ Qb k H') : tB te σ H Qb := h
theorem g_and {tA tB' : TT} {Qb : Bool → Hp → Prop} (h : tA σ H fun c H1 => if c = true then tB' σ H1 Qb else Qb false H1) : tAnd tA tB' σ H Qb := h
theorem g_or {tA tB' : TT} {Qb : Bool → Hp → Prop} (h : tA σ H fun c H1 => if c = true then Qb true H1 else tB' σ H1 Qb) : tOr tA tB' σ H Qb := h
theorem g_not {tA : TT} {Qb : Bool → Hp → Prop} (h : tA σ H fun c H1 => Qb (!c) H1) : tNot tA σ H Qb := h
theorem g_andV (h : ta σ H fun x H1 => ∃ c, x = .bl c ∧ if c = true then tb σ H1 Q else Q (.bl false) H1) : tAndV ta tb σ H Q := h
theorem g_orV (h : ta σ H fun x H1 => ∃ c, x = .bl c ∧ if c = true then Q (.bl true) H1 else tb σ H1 Q) : tOrV ta tb σ H Q := h
theorem g_notV (h : ta σ H fun x H1 => ∃ c, x = .bl c ∧ Q (.bl (!c)) H1) : tNotV ta σ H Q := h
theorem g_blV {b : Bool} {A : Bool → Prop} (h : A b) : ∃ k, V.bl b = V.bl k ∧ A k := ⟨b, rfl, h⟩
theorem g_ifE {t : TT} (h : t σ H fun c H1 => if c = true then ta σ H1 Q else tb σ H1 Q) : tIf t ta tb σ H Q := h
theorem g_lst {t : TA} (h : t σ H fun xs H1 => xs.length ≤ sizeLine ∧ ∀ p, H1 p = none → Q (.ref p) (upd H1 p (.lst xs))) : tLst t σ H Q := h
theorem g_tup {t : TA} (h : t σ H fun xs H1 => xs.length ≤ sizeLine ∧ ∀ p, H1 p = none → Q (.ref p) (upd H1 p (.tup xs))) : tTup t σ H Q := h
theorem g_cons {tr : TA} {Qs : List V → Hp → Prop} (h : ta σ H fun x H1 => tr σ H1 fun xs H2 => Qs (x :: xs) H2) : tCons ta tr σ H Qs := h
theorem g_nil {Qs : List V → Hp → Prop} (h : Qs [] H) : tNil σ H Qs := h
theorem g_call {sp : Sp} {dvs : List V} {E : XK} {t : TA} (h : t σ H fun vs H1 => sp (vs ++ dvs) H1 Q E) : tCall sp dvs E t σ H Q := h
theorem g_callS {sp : Sp} {E : L2.St → XK} {t : TA} (h : t σ H fun vs H1 => sp vs H1 Q (E σ)) : tCallS sp E t σ H Q := h
theorem g_CB {r : List V → Hp → VK → Prop} {t : TA} (h : t σ H fun vs H1 => r vs H1 Q) : tCB r t σ H Q := h
theorem g_ixL {p : Addr} {xs : List V} {k : Int} (hs : SqL K H p xs) (ha : atI xs k = some v) (h : Q v H) : rIxL K (.ref p) (.int k) H Q := ⟨p, xs, k, v, rfl, rfl, hs, ha, h⟩
theorem g_ixT {p : Addr} {xs : List V} {k : Int} (hs : SqT K H p xs) (ha : atI xs k = some v) (h : Q v H) : rIxT K (.ref p) (.int k) H Q := ⟨p, xs, k, v, rfl, rfl, hs, ha, h⟩
theorem g_chain {r r' : R2} (h : ta σ H fun x H1 => tb σ H1 fun y H2 => r x y H2 fun z H3 => ∃ k, z = .bl k ∧ (if k = true then tc σ H3 fun w' H4 => r' y w' H4 Q else Q (.bl false) H3)) : tChain r r' ta tb tc σ H Q := h
theorem g_fld {f : Str} (h : ta σ H fun x H1 => ∃ a C dx fs v, x = .ref a ∧ H1 a = some (.ins C dx fs) ∧ Cls K C ∧ NoAttr K C f ∧ fs.lookup f = some v ∧ Q v H1) : tFld K ta f σ H Q := h
theorem g_iteD {p : Prop} [Decidable p] {A B : Prop} (h1 : p → A) (h2 : ¬ p → B) : if decide p = true then A else B := by
  by_cases q : p
  · rw [decide_eq_true q, if_pos rfl]; exact h1 q
  · rw [decide_eq_false q, if_neg Bool.false_ne_true]; exact h2 q
theorem g_iteN {p : Prop} [Decidable p] {A B : Prop} (h1 : ¬ p → A) (h2 : p → B) : if (!decide p) = true then A else B := by
  by_cases q : p
  · rw [decide_eq_true q]; exact iteF (h2 q)
  · rw [decide_eq_false q]; exact iteT (h1 q)
theorem g_iteB {b : Bool} {A B : Prop} (h1 : b = true → A) (h2 : b = false → B) : if b = true then A else B := by
  cases b with
  | true => exact iteT (h1 rfl)
  | false => exact iteF (h2 rfl)
end
theorem sz_of {n : Nat} (h : n ≤ 100000) : n ≤ sizeLine := Nat.le_trans h (by decide)
theorem sz_lt {n : Nat} (h : n < 100000) : n < sizeLine := Nat.lt_of_lt_of_le h (by decide)
end Cor

/-! ## CorB -/
/-! ### readings by name -/
namespace Cor
open PySem PySem.Spec PyProof.Rows L2
abbrev rAddI : R2 := rI0 fun i j => .int (i + j)
abbrev rSubI : R2 := rI0 fun i j => .int (i - j)
abbrev rMulI : R2 := rI CMul fun i j => .int (i * j)
abbrev rModI : R2 := rI (fun _ j => 0 < j) fun i j => .int (i % j)
abbrev rDivI : R2 := rI CDiv fun i j => .int (i / j)
abbrev rPowI : R2 := rI CPow fun i j => .int (i ^ j.toNat)
abbrev rLtI : R2 := rI0 fun i j => .bl (decide (i < j))
abbrev rLeI : R2 := rI0 fun i j => .bl (decide (i ≤ j))
abbrev rGtI : R2 := rI0 fun i j => .bl (decide (j < i))
abbrev rGeI : R2 := rI0 fun i j => .bl (decide (j ≤ i))
abbrev rNegI : V → Hp → VK → Prop := rU fun i => .int (-i)
def rIsN : R2 := fun x y H Q => y = .non ∧ Q (.bl (decide (x = .non))) H
def rNotN : R2 := fun x y H Q => y = .non ∧ Q (.bl (!decide (x = .non))) H
def rAddS : R2 := fun x y H Q => ∃ i j, x = .str i ∧ y = .str j ∧ i.length + j.length ≤ sizeLine ∧ Q (.str (i ++ j)) H
def rLenL (K : PySem.W.Frag) : List V → Hp → VK → Prop := fun xs H Q => ∃ p ys, xs = [.ref p] ∧ (SqL K H p ys ∨ SqT K H p ys) ∧ Q (.int ys.length) H
def rLenT : List V → Hp → VK → Prop := fun xs H Q => ∃ z, xs = [.str z] ∧ z.length ≤ sizeLine ∧ Q (.int z.length) H
def rLenD : List V → Hp → VK → Prop := fun xs H Q => ∃ a kvs, xs = [V.ref a] ∧ H a = some (.dK kvs) ∧ Q (.int kvs.length) H
def rListL (K : PySem.W.Frag) : List V → Hp → VK → Prop := fun xs H Q => ∃ p ys, xs = [.ref p] ∧ (SqL K H p ys ∨ SqT K H p ys) ∧ ∀ l, H l = none → Q (.ref l) (upd H l (.lst ys))
def rDictD : List V → Hp → VK → Prop := fun xs H Q => ∃ (a : Addr) (kvs : List (Key × V)), xs = [.ref a] ∧ Rd H a (.dK kvs) ∧ ∀ p, H p = none → Q (.ref p) (upd H p (.dK kvs))
def rStrI : List V → Hp → VK → Prop := fun xs H Q => ∃ i, xs = [.int i] ∧ i.natAbs.log2 < 1920 ∧ Q (.str (toString i)) H
def rIntI : List V → Hp → VK → Prop := fun xs H Q => (∃ i, xs = [.int i] ∧ Q (.int i) H) ∨ ∃ k, xs = [.bl k] ∧ Q (.int (if k then 1 else 0)) H
def rMin2 : List V → Hp → VK → Prop := fun xs H Q => ∃ i j, xs = [.int i, .int j] ∧ Q (.int (if j < i then j else i)) H
def rMax2 : List V → Hp → VK → Prop := fun xs H Q => ∃ i j, xs = [.int i, .int j] ∧ Q (.int (if j > i then j else i)) H
def tRaise (E : XK) (C : Addr) : TS := fun _ _ H => E (.ref C) none H
/-- one except clause, with a name or without; several -/
def tTryO (K : PySem.W.Frag) (c : Value) (tb : WX → TS) (ts : Addr → Value → Option Addr → TS) : TS := fun D σ H => tb (wOnly K c ts (fun _ _ _ _ => False) D) D σ H
def tTryM (K : PySem.W.Frag) (l : List (Value × (Addr → Value → Option Addr → TS))) (tb : WX → TS) : TS := fun D σ H => tb (wMany K (fun _ _ _ _ => False) D l) D σ H
/-! ### facts of classes -/
def Exm (K : PySem.W.Frag) (x y : Str) (b : Bool) : Prop := PySem.W.exmOne K (.ref (He.ga K x)) (.ref (He.ga K y)) = some b
def exmB (x y : Str) (b : Bool) : Pd := fun K => decide (PySem.W.exmOne K (.ref (He.ga K x)) (.ref (He.ga K y)) = some b)
theorem exmB_ok {K : PySem.W.Frag} {x y : Str} {b : Bool} (h : exmB x y b K = true) : Exm K x y b := of_decide_eq_true (p := PySem.W.exmOne K (.ref (He.ga K x)) (.ref (He.ga K y)) = some b) h
def Kit (K : PySem.W.Frag) (x y : Str) (b : Bool) : Prop := PySem.W.kitOne K (.ref (He.ga K x)) (.ref (He.ga K y)) = some b
def kiB (x y : Str) (b : Bool) : Pd := fun K => decide (PySem.W.kitOne K (.ref (He.ga K x)) (.ref (He.ga K y)) = some b)
theorem kiB_ok {K : PySem.W.Frag} {x y : Str} {b : Bool} (h : kiB x y b K = true) : Kit K x y b := of_decide_eq_true (p := PySem.W.kitOne K (.ref (He.ga K x)) (.ref (He.ga K y)) = some b) h
def KitT (K : PySem.W.Frag) (x : Str) (y : String) (b : Bool) : Prop := PySem.W.kitOne K (.ref (He.ga K x)) (.type y) = some b
def kiTB (x : Str) (y : String) (b : Bool) : Pd := fun K => decide (PySem.W.kitOne K (.ref (He.ga K x)) (.type y) = some b)
theorem kiTB_ok {K : PySem.W.Frag} {x : Str} {y : String} {b : Bool} (h : kiTB x y b K = true) : KitT K x y b := of_decide_eq_true (p := PySem.W.kitOne K (.ref (He.ga K x)) (.type y) = some b) h
def excCB (x : Str) : Pd := fun K => He.eqO (PySem.W.findIn K (.ref (He.ga K x)) "__getattribute__") (some (some (.builtin "BaseException.__getattribute__"))) &&
  (He.eqO (PySem.W.findIn K (.ref (He.ga K x)) "__getattr__") (some none) && (decide (PySem.W.subIn K (.ref (He.ga K x)) (.type "BaseException") = some true) && (PySem.W.hasDictIn K (He.ga K x) &&
  (He.eqO (PySem.W.findIn K (.ref (He.ga K x)) "__class__") (some (some (.builtin "object.__class__"))) && (He.eqO (PySem.W.specialIn K (.builtin "object.__class__") "__get__") (some (some (.builtin "getset_descriptor.__get__"))) &&
  (decide (PySem.W.takesIn K (.builtin "object.__class__") = some true) && decide (PySem.W.mroIn K (He.ga K x) (.type "object") = some true)))))))
theorem excCB_ok {K : PySem.W.Frag} {x : Str} (h : excCB x K = true) : ExcC K (He.ga K x) := by
  obtain ⟨h1, h⟩ := He.ba h
  obtain ⟨h2, h⟩ := He.ba h
  obtain ⟨h3, h⟩ := He.ba h
  obtain ⟨h4, h⟩ := He.ba h
  obtain ⟨h5, h⟩ := He.ba h
  obtain ⟨h6, h⟩ := He.ba h
  obtain ⟨h7, h8⟩ := He.ba h
  exact ⟨He.eqO_ok h1, He.eqO_ok h2, of_decide_eq_true h3, h4, He.eqO_ok h5, He.eqO_ok h6, of_decide_eq_true h7, of_decide_eq_true h8⟩
/-! ### isinstance(e, C), e the exception that a suite holds, whatever its class -/
def rIsX (K : PySem.W.Frag) (cls : Value) (d : Option Addr) (a : Addr) : List V → Hp → VK → Prop := fun xs H Q => ∃ D, cls = .ref D ∧ d = none ∧ ExcC K D ∧ rIsE K D a xs H Q
theorem call_isX {X : Cx} {a : Addr} {oe : Obj} {cls : Value} {d : Option Addr} {pn : List (Addr × Obj)} (hz : Zc cls d oe) (hf : ∃ vs, oe.data = .fields vs) : CallR (X.suite a ((a, oe) :: pn)) (.builtin "isinstance") (rIsX X.K cls d a) := by
  intro pins s σ H xs us Q I r h
  obtain ⟨D, rfl, rfl, C, q⟩ := h
  exact call_isE C hz hf pins s σ H xs us Q I r q
/-! ### a method within a try's body -/
def tMethT (C : Addr) (m : Str) (sp : Sp) (E : L2.St → XK) (ta : TE) (t : TA) : TE := fun σ H Q => ta σ H fun x H1 => ∃ a dx fs, x = .ref a ∧ H1 a = some (.ins C dx fs) ∧ fs.lookup m = none ∧
  t σ H1 fun vs H2 => sp (x :: vs) H2 Q (E σ)
section
variable {X : Cx} {CX : CXT} {k : Nat} {f C : Addr} {fd : FuncData} {ps : List Str} {sp : Sp} {E : L2.St → XK} {x m : Str} {p pos apos : Pos} {e o : Expr} {es : List Expr} {ta : TE} {t : TA}
theorem pe_methT {pl : Sem Bool} (he : PE X o ta) (c : Cls X.K C) (hm : Meth X.K C m f) (F : FnOk X.prog X.w X.K X.mg X.base CX k f fd ps sp) (hr : Room k X.A) (hb : Binds X.K fd ps []) (hx : ∀ σ, PassesAt CX X σ (E σ)) (ha : PA X (e :: es) t)
    (hst : starEach (e :: es) X.env = (false, eval e X.env) :: starEach es X.env := by rfl) (hpl : (backTo pos (starEach es X.env)).any (·.1) = false := by rfl)
    (ht : eval (.Call (.Attribute o m apos) (e :: es) [] pos) X.env = (do
      let ov ← eval o X.env
      standAt apos.atName
      let (f, first) ← holding [ov] (getMethod ov m pl)
      callWith pos f first (backTo pos (starEach (e :: es) X.env)) (backToKw pos (keywordEach [] X.env))) := by rfl) :
    PE X (.Call (.Attribute o m apos) (e :: es) [] pos) (tMethT C m sp E ta t) := by
  refine ⟨fun pins s σ H Q I h => ?_⟩
  refine PySem.W.methodCall_KW (pl := pl) (thn (he.run pins s σ H _ I h) fun u s1 ⟨x, H1, I1, rx, a, dx, fs, ex, ea, l, q⟩ => ?_) ht
  subst ex
  obtain rfl : u = Value.ref a := rx
  refine getmeth_ok I1 ea c hm l ?_
  refine PySem.W.callWith_K (first := [.ref a]) (h₀ := X.base) I.ok.mod.kin hm.kp (thn (ha.run pos pins s1 σ H1 _ I1 q) fun us s2 ⟨vs, H2, I2, r, q2⟩ => ⟨I2.kIn, ?_⟩) hst hpl
  exact run_fnS (us := .ref a :: us) (vs := .ref a :: vs) F hr hb (hx σ) I2 (.cons rfl r) q2
theorem pe_methT0 {pl : Sem Bool} (he : PE X o ta) (c : Cls X.K C) (hm : Meth X.K C m f) (F : FnOk X.prog X.w X.K X.mg X.base CX k f fd ps sp) (hr : Room k X.A) (hb : Binds X.K fd ps []) (hx : ∀ σ, PassesAt CX X σ (E σ))
    (ht : eval (.Call (.Attribute o m apos) [] [] pos) X.env = (do
      let ov ← eval o X.env
      standAt apos.atName
      let (f, first) ← holding [ov] (getMethod ov m pl)
      callWith pos f first (backTo pos (starEach [] X.env)) (backToKw pos (keywordEach [] X.env))) := by rfl) :
    PE X (.Call (.Attribute o m apos) [] [] pos) (tMethT C m sp E ta tNil) := by
  refine ⟨fun pins s σ H Q I h => ?_⟩
  refine PySem.W.methodCall_KW (pl := pl) (thn (he.run pins s σ H _ I h) fun u s1 ⟨x, H1, I1, rx, a, dx, fs, ex, ea, l, q⟩ => ?_) ht
  subst ex
  obtain rfl : u = Value.ref a := rx
  refine getmeth_ok I1 ea c hm l ?_
  exact PySem.W.callWith_K0 (first := [.ref a]) I1.kIn hm.kp (run_fnS (us := [.ref a]) (vs := [.ref a]) F hr hb (hx σ) I1 (.cons rfl .nil) q)
end
/-! ### small readings -/
section
variable {σ : L2.St} {H : Hp} {Q : VK} {K : PySem.W.Frag} {x : V}
theorem g_isN (h : Q (.bl (decide (x = .non))) H) : rIsN x .non H Q := ⟨rfl, h⟩
theorem g_notN (h : Q (.bl (!decide (x = .non))) H) : rNotN x .non H Q := ⟨rfl, h⟩
theorem g_lenL {p : Addr} {ys : List V} (hs : SqL K H p ys) (h : Q (.int ys.length) H) : rLenL K [.ref p] H Q := ⟨p, ys, rfl, .inl hs, h⟩
theorem g_listL {p : Addr} {ys : List V} (hs : SqL K H p ys) (h : ∀ l, H l = none → Q (.ref l) (upd H l (.lst ys))) : rListL K [.ref p] H Q := ⟨p, ys, rfl, .inl hs, h⟩
/-- isinstance of flat values and of objects -/
theorem g_isi {u t : String} {b : Bool} (ht : TyX K H x (.type t)) (hk : L2.kitB t u = some b) (h : Q (.bl b) H) : rIsi K [x, .ty u] H Q := ⟨x, .ty u, .type t, .type u, b, rfl, .ty u, ht, kit_ty hk, h⟩
end
end Cor

/-! ## CorC -/
/-! ### loops by what is left -/
namespace Cor
open PySem PySem.Spec PyProof.Rows L2
section
variable {K : PySem.W.Frag} {σ : L2.St} {H : Hp} {D : Ends} {g : TG} {tb : TS} {wi : TI} {tl : TE} {ta : TA} {Q : VK}
/-- the items r of the list at a (all of them: all) are still to be walked -/
def forRun (K : PySem.W.Frag) (a : Addr) (all : List V) (g : TG) (tb : TS) (D : Ends) : List V → L2.St → Hp → Prop
  | [] => fun σ H => SqL K H a all ∧ D.nx σ H
  | x :: r => fun σ H => SqL K H a all ∧ g x σ H fun σ2 H2 => tb { D with nx := forRun K a all g tb D r, ct := forRun K a all g tb D r, bk := D.nx } σ2 H2
theorem forRun.sq {a : Addr} {all r : List V} (h : forRun K a all g tb D r σ H) : SqL K H a all := by
  cases r with
  | nil => exact h.1
  | cons x r => exact h.1
theorem drop_cons {α : Type} {xs : List α} {i : Nat} {x : α} (h : xs[i]? = some x) : xs.drop i = x :: xs.drop (i + 1) := by
  obtain ⟨hi, e⟩ := List.getElem?_eq_some_iff.mp h
  rw [← e]
  exact List.drop_eq_getElem_cons hi
theorem for_go {a : Addr} {xs : List V} (h : forRun K a xs g tb D xs σ H) : ∃ a', V.ref a = V.ref a' ∧ (∃ ys, SqL K H a' ys) ∧ ∃ W : Nat → Nat → L2.St → Hp → Prop, (∃ m, W 0 m σ H) ∧ ∀ i m σ H, W i m σ H →
    ((Itl K a').stop i H ∧ D.nx σ H) ∨ ((Itl K a').go i H ∧ ∃ N : L2.St → Hp → Prop, (∀ σ' H', N σ' H' → ∃ m', m' < m ∧ W (i + 1) m' σ' H') ∧ ∀ x H', (Itl K a').yld i H x H' → g x σ H' fun σ2 H2 => tb { D with nx := N, ct := N, bk := D.nx } σ2 H2) := by
  refine ⟨a, rfl, ⟨xs, h.sq⟩, for_list (K := K) (a := a) (xs := xs) (fun i σ H => forRun K a xs g tb D (xs.drop i) σ H) h (fun i σ H hi p => p.sq) (fun i x σ H hx p => ?_) (fun σ H p => ?_)⟩
  · rw [drop_cons hx] at p
    exact p.2
  · rw [List.drop_length] at p
    exact p.2
theorem g_forL (h : tl σ H fun x H1 => ∃ a, x = .ref a ∧ (∃ xs, SqL K H1 a xs) ∧ ∃ W : Nat → Nat → L2.St → Hp → Prop, (∃ m, W 0 m σ H1) ∧ ∀ i m σ H, W i m σ H →
    ((Itl K a).stop i H ∧ D.nx σ H) ∨ ((Itl K a).go i H ∧ ∃ N : L2.St → Hp → Prop, (∀ σ' H', N σ' H' → ∃ m', m' < m ∧ W (i + 1) m' σ' H') ∧ ∀ x H', (Itl K a).yld i H x H' → g x σ H' fun σ2 H2 => tb { D with nx := N, ct := N, bk := D.nx } σ2 H2)) : tFor (iList K tl) g tb D σ H := h
/-- n turns from k on -/
def forRng (g : TG) (tb : TS) (D : Ends) : Nat → Int → L2.St → Hp → Prop
  | 0, _ => fun σ H => D.nx σ H
  | n + 1, k => fun σ H => g (.int k) σ H fun σ2 H2 => tb { D with nx := forRng g tb D n (k + 1), ct := forRng g tb D n (k + 1), bk := D.nx } σ2 H2
theorem rng_go {lo : Int} {n : Nat} (h : forRng g tb D n lo σ H) : ∃ W : Nat → Nat → L2.St → Hp → Prop, (∃ m, W 0 m σ H) ∧ ∀ i m σ H, W i m σ H →
    ((Itr lo n).stop i H ∧ D.nx σ H) ∨ ((Itr lo n).go i H ∧ ∃ N : L2.St → Hp → Prop, (∀ σ' H', N σ' H' → ∃ m', m' < m ∧ W (i + 1) m' σ' H') ∧ ∀ x H', (Itr lo n).yld i H x H' → g x σ H' fun σ2 H2 => tb { D with nx := N, ct := N, bk := D.nx } σ2 H2) := by
  refine for_range (fun i σ H => i ≤ n ∧ forRng g tb D (n - i) (lo + i) σ H) ⟨Nat.zero_le _, by simpa using h⟩ (fun i σ H hi ⟨_, p⟩ => ?_) (fun σ H ⟨_, p⟩ => ?_)
  · obtain ⟨m, hm⟩ : ∃ m, n - i = m + 1 := ⟨n - i - 1, by omega⟩
    rw [hm] at p
    have e1 : n - (i + 1) = m := by omega
    have e2 : lo + ((i + 1 : Nat) : Int) = lo + (i : Int) + 1 := by omega
    have e3 : (fun σ H => i + 1 ≤ n ∧ forRng g tb D (n - (i + 1)) (lo + ((i + 1 : Nat) : Int)) σ H) = forRng g tb D m (lo + (i : Int) + 1) := by
      funext σ' H'
      rw [e1, e2]
      exact propext ⟨fun z => z.2, fun z => ⟨by omega, z⟩⟩
    show g (.int (lo + (i : Int))) σ H fun σ2 H2 => tb { D with nx := fun σ H => i + 1 ≤ n ∧ forRng g tb D (n - (i + 1)) (lo + ((i + 1 : Nat) : Int)) σ H, ct := fun σ H => i + 1 ≤ n ∧ forRng g tb D (n - (i + 1)) (lo + ((i + 1 : Nat) : Int)) σ H, bk := D.nx } σ2 H2
    rw [e3]
    exact p
  · rw [Nat.sub_self] at p
    exact p
theorem g_rng1 (h : ta σ H fun vs H1 => ∃ j : Int, vs = [.int j] ∧ -(2 ^ 62) ≤ j ∧ j < 2 ^ 62 ∧ forRng g tb D j.toNat 0 σ H1) (mono : ∀ Q Q' : List V → Hp → Prop, (∀ vs H, Q vs H → Q' vs H) → ta σ H Q → ta σ H Q') : tFor (iRng1 ta) g tb D σ H :=
  mono _ _ (fun vs H1 ⟨j, e, b1, b2, h⟩ => ⟨j, e, b1, b2, rng_go h⟩) h
/-- range(j), j given -/
theorem rng1_of {j : Int} (b1 : -(2 ^ 62) ≤ j) (b2 : j < 2 ^ 62) (h : forRng g tb D j.toNat 0 σ H) : ∃ j' : Int, [V.int j] = [.int j'] ∧ -(2 ^ 62) ≤ j' ∧ j' < 2 ^ 62 ∧ ∃ W : Nat → Nat → L2.St → Hp → Prop, (∃ m, W 0 m σ H) ∧ ∀ i m σ H, W i m σ H →
    ((Itr 0 j'.toNat).stop i H ∧ D.nx σ H) ∨ ((Itr 0 j'.toNat).go i H ∧ ∃ N : L2.St → Hp → Prop, (∀ σ' H', N σ' H' → ∃ m', m' < m ∧ W (i + 1) m' σ' H') ∧ ∀ x H', (Itr 0 j'.toNat).yld i H x H' → g x σ H' fun σ2 H2 => tb { D with nx := N, ct := N, bk := D.nx } σ2 H2) :=
  ⟨j, rfl, b1, b2, rng_go h⟩
theorem g_forR1 (h : ta σ H fun vs H1 => ∃ j : Int, vs = [.int j] ∧ -(2 ^ 62) ≤ j ∧ j < 2 ^ 62 ∧ ∃ W : Nat → Nat → L2.St → Hp → Prop, (∃ m, W 0 m σ H1) ∧ ∀ i m σ H, W i m σ H →
    ((Itr 0 j.toNat).stop i H ∧ D.nx σ H) ∨ ((Itr 0 j.toNat).go i H ∧ ∃ N : L2.St → Hp → Prop, (∀ σ' H', N σ' H' → ∃ m', m' < m ∧ W (i + 1) m' σ' H') ∧ ∀ x H', (Itr 0 j.toNat).yld i H x H' → g x σ H' fun σ2 H2 => tb { D with nx := N, ct := N, bk := D.nx } σ2 H2)) : tFor (iRng1 ta) g tb D σ H := h
/-! ### list comprehensions by what is left -/
section
variable {tt : TT} {te : TE} {vs : List Nat}
/-- an end, held unreduced -/
def ap (Q : VK) (v : V) (H : Hp) : Prop := Q v H
/-- the items r of the list at a (all of them: all) are still to be walked; the new list stands at L -/
def lcRun (K : PySem.W.Frag) (a : Addr) (all : List V) (g : TG) (tt : TT) (te : TE) (vs : List Nat) (σ : L2.St) (L : Addr) (Q : VK) : List V → Hp → Prop
  | [] => fun H => SqL K H a all ∧ Q (.ref L) H
  | x :: r => fun H => SqL K H a all ∧ g x (wipe σ vs) H fun σ2 H2 => wipe σ2 vs = wipe σ vs ∧ tt σ2 H2 fun b H3 =>
      if b = true then te σ2 H3 fun y H4 => ∃ acc, H4 L = some (.lst acc) ∧ acc.length < sizeLine ∧ lcRun K a all g tt te vs σ L Q r (upd H4 L (.lst (acc ++ [y]))) else lcRun K a all g tt te vs σ L Q r H3
theorem lcRun.sq {a : Addr} {all r : List V} {L : Addr} (h : lcRun K a all g tt te vs σ L Q r H) : SqL K H a all := by
  cases r with
  | nil => exact h.1
  | cons x r => exact h.1
theorem lc_go {a : Addr} {xs : List V} (hS : SqL K H a xs) (h : ∀ L, H L = none → lcRun K a xs g tt te vs σ L Q xs (upd H L (.lst []))) : ∃ a', V.ref a = V.ref a' ∧ (∃ ys, SqL K H a' ys) ∧ ∀ L, H L = none → ∃ W : Nat → Nat → Hp → Prop, (∃ m, W 0 m (upd H L (.lst []))) ∧ ∀ i m H, W i m H →
    ((Itl K a').stop i H ∧ ap Q (.ref L) H) ∨ ((Itl K a').go i H ∧ ∃ Nx : Hp → Prop, (∀ H', Nx H' → ∃ m', m' < m ∧ W (i + 1) m' H') ∧ ∀ x H', (Itl K a').yld i H x H' → g x (wipe σ vs) H' fun σ2 H2 => wipe σ2 vs = wipe σ vs ∧ tt σ2 H2 fun b H3 =>
      if b = true then te σ2 H3 fun y H4 => ∃ acc, H4 L = some (.lst acc) ∧ acc.length < sizeLine ∧ Nx (upd H4 L (.lst (acc ++ [y]))) else Nx H3) := by
  refine ⟨a, rfl, ⟨xs, hS⟩, fun L hL => lc_list (K := K) (a := a) (xs := xs) (fun i H => lcRun K a xs g tt te vs σ L Q (xs.drop i) H) (h L hL) (fun i H hi p => p.sq) (fun i x H hx p => ?_) (fun H p => ?_)⟩
  · rw [drop_cons hx] at p
    exact p.2
  · rw [List.drop_length] at p
    exact p.2
theorem g_lcL (h : tl σ H fun x H1 => ∃ a, x = .ref a ∧ (∃ xs, SqL K H1 a xs) ∧ ∀ L, H1 L = none → ∃ W : Nat → Nat → Hp → Prop, (∃ m, W 0 m (upd H1 L (.lst []))) ∧ ∀ i m H, W i m H →
    ((Itl K a).stop i H ∧ ap Q (.ref L) H) ∨ ((Itl K a).go i H ∧ ∃ Nx : Hp → Prop, (∀ H', Nx H' → ∃ m', m' < m ∧ W (i + 1) m' H') ∧ ∀ x H', (Itl K a).yld i H x H' → g x (wipe σ vs) H' fun σ2 H2 => wipe σ2 vs = wipe σ vs ∧ tt σ2 H2 fun b H3 =>
      if b = true then te σ2 H3 fun y H4 => ∃ acc, H4 L = some (.lst acc) ∧ acc.length < sizeLine ∧ Nx (upd H4 L (.lst (acc ++ [y]))) else Nx H3)) : tLc (iList K tl) g tt te vs σ H Q := h
/-- n turns from k on -/
def lcRng (g : TG) (tt : TT) (te : TE) (vs : List Nat) (σ : L2.St) (L : Addr) (Q : VK) : Nat → Int → Hp → Prop
  | 0, _ => fun H => Q (.ref L) H
  | n + 1, k => fun H => g (.int k) (wipe σ vs) H fun σ2 H2 => wipe σ2 vs = wipe σ vs ∧ tt σ2 H2 fun b H3 =>
      if b = true then te σ2 H3 fun y H4 => ∃ acc, H4 L = some (.lst acc) ∧ acc.length < sizeLine ∧ lcRng g tt te vs σ L Q n (k + 1) (upd H4 L (.lst (acc ++ [y]))) else lcRng g tt te vs σ L Q n (k + 1) H3
theorem lcr_go {lo : Int} {n : Nat} {L : Addr} (h : lcRng g tt te vs σ L Q n lo (upd H L (.lst []))) : ∃ W : Nat → Nat → Hp → Prop, (∃ m, W 0 m (upd H L (.lst []))) ∧ ∀ i m H, W i m H →
    ((Itr lo n).stop i H ∧ ap Q (.ref L) H) ∨ ((Itr lo n).go i H ∧ ∃ Nx : Hp → Prop, (∀ H', Nx H' → ∃ m', m' < m ∧ W (i + 1) m' H') ∧ ∀ x H', (Itr lo n).yld i H x H' → g x (wipe σ vs) H' fun σ2 H2 => wipe σ2 vs = wipe σ vs ∧ tt σ2 H2 fun b H3 =>
      if b = true then te σ2 H3 fun y H4 => ∃ acc, H4 L = some (.lst acc) ∧ acc.length < sizeLine ∧ Nx (upd H4 L (.lst (acc ++ [y]))) else Nx H3) := by
  refine lc_range (fun i H => i ≤ n ∧ lcRng g tt te vs σ L Q (n - i) (lo + i) H) ⟨Nat.zero_le _, by simpa using h⟩ (fun i H hi ⟨_, p⟩ => ?_) (fun H ⟨_, p⟩ => ?_)
  · obtain ⟨m, hm⟩ : ∃ m, n - i = m + 1 := ⟨n - i - 1, by omega⟩
    rw [hm] at p
    have e1 : n - (i + 1) = m := by omega
    have e2 : lo + ((i + 1 : Nat) : Int) = lo + (i : Int) + 1 := by omega
    have e3 : ∀ H, (i + 1 ≤ n ∧ lcRng g tt te vs σ L Q (n - (i + 1)) (lo + ((i + 1 : Nat) : Int)) H) = lcRng g tt te vs σ L Q m (lo + (i : Int) + 1) H := by
      intro H'
      rw [e1, e2]
      exact propext ⟨fun z => z.2, fun z => ⟨by omega, z⟩⟩
    simp only [e3]
    exact p
  · rw [Nat.sub_self] at p
    exact p
theorem lcr1_of {j : Int} (b1 : -(2 ^ 62) ≤ j) (b2 : j < 2 ^ 62) (h : ∀ L, H L = none → lcRng g tt te vs σ L Q j.toNat 0 (upd H L (.lst []))) : ∃ j' : Int, [V.int j] = [.int j'] ∧ -(2 ^ 62) ≤ j' ∧ j' < 2 ^ 62 ∧ ∀ L, H L = none → ∃ W : Nat → Nat → Hp → Prop, (∃ m, W 0 m (upd H L (.lst []))) ∧ ∀ i m H, W i m H →
    ((Itr 0 j'.toNat).stop i H ∧ ap Q (.ref L) H) ∨ ((Itr 0 j'.toNat).go i H ∧ ∃ Nx : Hp → Prop, (∀ H', Nx H' → ∃ m', m' < m ∧ W (i + 1) m' H') ∧ ∀ x H', (Itr 0 j'.toNat).yld i H x H' → g x (wipe σ vs) H' fun σ2 H2 => wipe σ2 vs = wipe σ vs ∧ tt σ2 H2 fun b H3 =>
      if b = true then te σ2 H3 fun y H4 => ∃ acc, H4 L = some (.lst acc) ∧ acc.length < sizeLine ∧ Nx (upd H4 L (.lst (acc ++ [y]))) else Nx H3) :=
  ⟨j, rfl, b1, b2, fun L hL => lcr_go (h L hL)⟩
theorem g_lcR1 (h : ta σ H fun vs' H1 => ∃ j : Int, vs' = [.int j] ∧ -(2 ^ 62) ≤ j ∧ j < 2 ^ 62 ∧ ∀ L, H1 L = none → ∃ W : Nat → Nat → Hp → Prop, (∃ m, W 0 m (upd H1 L (.lst []))) ∧ ∀ i m H, W i m H →
    ((Itr 0 j.toNat).stop i H ∧ ap Q (.ref L) H) ∨ ((Itr 0 j.toNat).go i H ∧ ∃ Nx : Hp → Prop, (∀ H', Nx H' → ∃ m', m' < m ∧ W (i + 1) m' H') ∧ ∀ x H', (Itr 0 j.toNat).yld i H x H' → g x (wipe σ vs) H' fun σ2 H2 => wipe σ2 vs = wipe σ vs ∧ tt σ2 H2 fun b H3 =>
      if b = true then te σ2 H3 fun y H4 => ∃ acc, H4 L = some (.lst acc) ∧ acc.length < sizeLine ∧ Nx (upd H4 L (.lst (acc ++ [y]))) else Nx H3)) : tLc (iRng1 ta) g tt te vs σ H Q := h
theorem g_yes {Qb : Bool → Hp → Prop} (h : Qb true H) : tYes σ H Qb := h
end
end
end Cor
namespace Cor
open PySem PySem.Spec PyProof.Rows L2
section
variable {K : PySem.W.Frag} {σ : L2.St} {H : Hp} {D : Ends} {Q : VK} {ta tb td ty to te tv tx : TE} {t : TA}
theorem g_new {xs : List V} {A : Addr → Prop} (hl : Nat.ble xs.length 100000 = true) (h : ∀ p, H p = none → A p) : xs.length ≤ sizeLine ∧ ∀ p, H p = none → A p := ⟨sz_of (Nat.le_of_ble_eq_true hl), h⟩
theorem g_mod {a b : Int} (hb : 0 < b) (h : Q (.int (a % b)) H) : rModI (.int a) (.int b) H Q := ⟨a, b, rfl, rfl, hb, h⟩
theorem g_div {a b : Int} (hb : 0 < b) (hb2 : b < 1073741824) (h : Q (.int (a / b)) H) : rDivI (.int a) (.int b) H Q := ⟨a, b, rfl, rfl, ⟨hb, hb2⟩, h⟩
theorem g_mul {a b : Int} (hb : CMul a b) (h : Q (.int (a * b)) H) : rMulI (.int a) (.int b) H Q := ⟨a, b, rfl, rfl, hb, h⟩
theorem g_sub {v : V} {ti : TE} {t : TSet} {Qs : L2.St → Hp → Prop} (h : to σ H fun o H1 => ti σ H1 fun i H2 => t o i v H2 fun H3 => Qs σ H3) : gSub to ti t v σ H Qs := h
theorem g_bm {T : String} {r : V → List V → Hp → VK → Prop} (h : to σ H fun x H1 => tyV K T x H1 ∧ t σ H1 fun xs H2 => r x xs H2 Q) : tBM K T r to t σ H Q := h
theorem g_bm0 {T : String} {r : V → List V → Hp → VK → Prop} (h : to σ H fun x H1 => tyV K T x H1 ∧ r x [] H1 Q) : tBM0 K T r to σ H Q := h
theorem g_dget (h : td σ H fun x H1 => ty σ H1 fun y H2 => ∃ a v, x = .ref a ∧ DGet H2 a y (some v) ∧ Q v H2) : tDGet td ty σ H Q := h
theorem g_din (h : ty σ H fun y H1 => td σ H1 fun x H2 => ∃ a o, x = .ref a ∧ DGet H2 a y o ∧ Q (.bl o.isSome) H2) : tDIn ty td σ H Q := h
theorem g_dnotin (h : ty σ H fun y H1 => td σ H1 fun x H2 => ∃ a o, x = .ref a ∧ DGet H2 a y o ∧ Q (.bl (!o.isSome)) H2) : tDNotIn ty td σ H Q := h
theorem g_dput (h : tv σ H fun v H1 => td σ H1 fun x H2 => ty σ H2 fun y H3 => ∃ a H4, x = .ref a ∧ DPut H3 a y v H4 ∧ D.nx σ H4) : sDPut td ty tv D σ H := h
theorem g_sl {r : V → Option Int → Option Int → Hp → VK → Prop} {tl th : TO} (h : te σ H fun x H1 => tl σ H1 fun l H2 => th σ H2 fun u H3 => r x l u H3 Q) : tSl r te tl th σ H Q := h
theorem g_part {Qo : Option Int → Hp → Prop} (h : te σ H fun x H1 => ∃ i, x = .int i ∧ Qo (some i) H1) : tPart te σ H Qo := h
theorem g_nopart {Qo : Option Int → Hp → Prop} (h : Qo none H) : tNoPart σ H Qo := h
theorem g_meth {C : Addr} {m : Str} {sp : Sp} {dvs : List V} {E : XK} (h : ta σ H fun x H1 => ∃ a dx fs, x = .ref a ∧ H1 a = some (.ins C dx fs) ∧ fs.lookup m = none ∧ t σ H1 fun vs H2 => sp (x :: (vs ++ dvs)) H2 Q E) : tMeth C m sp dvs E ta t σ H Q := h
theorem g_methT {C : Addr} {m : Str} {sp : Sp} {E : L2.St → XK} (h : ta σ H fun x H1 => ∃ a dx fs, x = .ref a ∧ H1 a = some (.ins C dx fs) ∧ fs.lookup m = none ∧ t σ H1 fun vs H2 => sp (x :: vs) H2 Q (E σ)) : tMethT C m sp E ta t σ H Q := h
theorem g_sfld {f : Str} (h : tv σ H fun y H1 => ta σ H1 fun x H2 => ∃ a C dx fs, x = .ref a ∧ H2 a = some (.ins C dx fs) ∧ Cls K C ∧ NoAttr K C f ∧ fs.length < 1000 ∧ D.nx σ (upd H2 a (.ins C dx (putF f y fs)))) : sFld K ta tv f D σ H := h
/-- what an object is to its methods -/
theorem ty_list {p : Addr} {xs : List V} (h : SqL K H p xs) : tyV K "list" (.ref p) H := .inl ⟨rfl, _, h⟩
theorem g_append {l : Addr} {xs : List V} {y : V} (h1 : H l = some (.lst xs)) (h2 : xs.length < sizeLine) (h : Q .non (upd H l (.lst (xs ++ [y])))) : rAppend (.ref l) [y] H Q := ⟨l, xs, y, rfl, rfl, h1, h2, h⟩
theorem g_setL {p : Addr} {xs : List V} {k : Int} {j : Nat} {v : V} {Qs : Hp → Prop} (h1 : H p = some (.lst xs)) (h2 : ixN xs.length k = some j) (h : Qs (upd H p (.lst (xs.set j v)))) : rSetL (.ref p) (.int k) v H Qs := ⟨p, xs, k, j, rfl, rfl, h1, h2, h⟩
end
end Cor
namespace Cor
theorem iteNT {A B : Prop} (h : B) : if (!true) = true then A else B := by
  rw [if_neg (by decide)]
  exact h
theorem iteNF {A B : Prop} (h : A) : if (!false) = true then A else B := by
  rw [if_pos (by decide)]
  exact h
end Cor
namespace Cor
open PySem PySem.Spec PyProof.Rows L2
/-! ### None or a number; heaps that grow -/
abbrev oV : Option Int → V
  | none => .non
  | some i => .int i
section
variable {H H' H2 : Hp} {p : Addr} {o : HO} {Q : VK} {i : Int} {s : Str} {K : PySem.W.Frag}
theorem g_isN0 (h : Q (.bl true) H) : rIsN .non .non H Q := ⟨rfl, by rw [decide_eq_true rfl]; exact h⟩
theorem g_isN1 (h : Q (.bl false) H) : rIsN (.int i) .non H Q := ⟨rfl, by rw [decide_eq_false (by intro z; cases z)]; exact h⟩
theorem g_isN2 (h : Q (.bl false) H) : rIsN (.ref p) .non H Q := ⟨rfl, by rw [decide_eq_false (by intro z; cases z)]; exact h⟩
theorem g_notN0 (h : Q (.bl false) H) : rNotN .non .non H Q := ⟨rfl, by rw [decide_eq_true rfl]; exact h⟩
theorem g_notN1 (h : Q (.bl true) H) : rNotN (.int i) .non H Q := ⟨rfl, by rw [decide_eq_false (by intro z; cases z)]; exact h⟩
theorem g_notN2 (h : Q (.bl true) H) : rNotN (.ref p) .non H Q := ⟨rfl, by rw [decide_eq_false (by intro z; cases z)]; exact h⟩
theorem same_new (h : H p = none) : Same H (upd H p o) := fun a u e => by
  rw [upd_ne (ne_of_none e h)]
  exact e
theorem same_mut (e : Same H H') (h : H p = none) : Same H (upd H' p o) := fun a u ha => by
  rw [upd_ne (ne_of_none ha h)]
  exact e a u ha
theorem same_add (e : Same H H') (h : H' p = none) : Same H (upd H' p o) := e.trans (same_new h)
theorem Same.lst {xs : List V} (e : Same H H') (h : H p = some (.lst xs)) : H' p = some (.lst xs) := e p _ h
theorem same_t {xs : List V} (e : Same H H') (h : SqT K H p xs) : SqT K H' p xs := by
  rcases h with (h | ⟨o, h⟩) | h
  · exact .inl (.inl (e _ _ h))
  · exact .inl (.inr ⟨o, e _ _ h⟩)
  · exact .inr h
/-- a new address stands apart from a known one -/
theorem ne_new (h : H p = some o) {q : Addr} (hq : H q = none) : p ≠ q := ne_of_none h hq
end
theorem dec_T {p : Prop} [Decidable p] (h : p) {A B : Prop} (a : A) : if decide p = true then A else B := by
  rw [decide_eq_true h]; exact iteT a
theorem dec_F {p : Prop} [Decidable p] (h : ¬ p) {A B : Prop} (b : B) : if decide p = true then A else B := by
  rw [decide_eq_false h]; exact iteF b
theorem dec_NT {p : Prop} [Decidable p] (h : p) {A B : Prop} (b : B) : if (!decide p) = true then A else B := by
  rw [decide_eq_true h]; exact iteNT b
theorem dec_NF {p : Prop} [Decidable p] (h : ¬ p) {A B : Prop} (a : A) : if (!decide p) = true then A else B := by
  rw [decide_eq_false h]; exact iteNF a
end Cor
namespace Cor
open PySem PySem.Spec PyProof.Rows L2
theorem g_rng0 {g : TG} {tb : TS} {D : Ends} {k : Int} {σ : L2.St} {H : Hp} (h : D.nx σ H) : forRng g tb D 0 k σ H := h
theorem g_run0 {K : PySem.W.Frag} {a : Addr} {all : List V} {g : TG} {tb : TS} {D : Ends} {σ : L2.St} {H : Hp} (hs : SqL K H a all) (h : D.nx σ H) : forRun K a all g tb D [] σ H := ⟨hs, h⟩
theorem g_run1 {K : PySem.W.Frag} {a : Addr} {all r : List V} {x : V} {g : TG} {tb : TS} {D : Ends} {σ : L2.St} {H : Hp} (hs : SqL K H a all) (h : g x σ H fun σ2 H2 => tb { D with nx := forRun K a all g tb D r, ct := forRun K a all g tb D r, bk := D.nx } σ2 H2) : forRun K a all g tb D (x :: r) σ H := ⟨hs, h⟩
end Cor
namespace Cor
open PySem PySem.Spec PyProof.Rows L2
/-! ### texts -/
def rMulS : R2 := fun x y H Q => ∃ z n, x = .str z ∧ y = .int n ∧ MulOk z n ∧ Q (.str (Txt.mul z n)) H
theorem op_mul_str {X : Cx} : OpR X (binaryOp .Mult) rMulS := by
  intro pins s σ H x y v u Q I rx ry h
  obtain ⟨z, n, rfl, rfl, hok, q⟩ := h
  obtain ⟨t, rfl⟩ := rx
  obtain ⟨t', rfl⟩ := ry
  exact SB.mul hok (fun t' k => ⟨.str (Txt.mul z n), H, I.tok _, ⟨_, rfl⟩, q⟩)
def rSplit : V → List V → Hp → VK → Prop := fun x xs H Q => ∃ a b, x = .str a ∧ xs = [.str b] ∧ (b.length == 0) = false ∧ a.length + 2 ≤ sizeLine ∧ rNewStrs (Txt.split a b) H Q
def rJoin (K : PySem.W.Frag) : V → List V → Hp → VK → Prop := fun x xs H Q => ∃ a p, ∃ ys : List Str, x = .str a ∧ xs = [.ref p] ∧ (SqL K H p (ys.map V.str) ∨ SqT K H p (ys.map V.str)) ∧ (ys.map (·.length)).sum + ys.length * a.length ≤ 16777216 ∧ Q (.str (Txt.join a ys)) H
section
variable {σ : L2.St} {H : Hp} {Q : VK} {K : PySem.W.Frag} {to te : TE} {a b : Str} {n : Int}
theorem g_M1 {r : V → List V → Hp → VK → Prop} (h : to σ H fun x H1 => (∃ a, x = .str a) ∧ te σ H1 fun y H2 => r x [y] H2 Q) : tM1 r to te σ H Q := h
theorem g_mulS (hok : MulOk a n) (h : Q (.str (Txt.mul a n)) H) : rMulS (.str a) (.int n) H Q := ⟨a, n, rfl, rfl, hok, h⟩
theorem g_addS (hl : a.length + b.length ≤ 100000) (h : Q (.str (a ++ b)) H) : rAddS (.str a) (.str b) H Q := ⟨a, b, rfl, rfl, sz_of hl, h⟩
theorem g_slS {lo hi : Option Int} (hl : a.length ≤ 100000) (h : Q (.str (cutS a lo hi)) H) : rSlS (.str a) lo hi H Q := ⟨a, rfl, sz_of hl, h⟩
theorem g_eqS (h : Q (.bl (decide (a = b))) H) : rEq (.str a) (.str b) H Q := ⟨rfl, by
  have e : decide (V.str a = V.str b) = decide (a = b) := by
    by_cases q : a = b
    · subst q; simp
    · rw [decide_eq_false q, decide_eq_false (fun z => q (V.str.inj z))]
  rw [e]; exact h⟩
theorem g_neS (h : Q (.bl (!decide (a = b))) H) : rNe (.str a) (.str b) H Q := ⟨rfl, by
  have e : decide (V.str a = V.str b) = decide (a = b) := by
    by_cases q : a = b
    · subst q; simp
    · rw [decide_eq_false q, decide_eq_false (fun z => q (V.str.inj z))]
  rw [e]; exact h⟩
theorem g_raise {E : XK} {C : Addr} {D : Ends} (h : E (.ref C) none H) : tRaise E C D σ H := h
theorem g_tryO {c : Value} {tb : WX → TS} {ts : Addr → Value → Option Addr → TS} {D : Ends} (h : tb (wOnly K c ts (fun _ _ _ _ => False) D) D σ H) : tTryO K c tb ts D σ H := h
theorem g_tryM {l : List (Value × (Addr → Value → Option Addr → TS))} {tb : WX → TS} {D : Ends} (h : tb (wMany K (fun _ _ _ _ => False) D l) D σ H) : tTryM K l tb D σ H := h
end
end Cor
namespace Cor
open PySem PySem.Spec PyProof.Rows L2
/-- one clause with a name, its slot i -/
def tTryA (K : PySem.W.Frag) (c : Value) (i : Nat) (tb : WX → TS) (ts : Addr → Value → Option Addr → TS) : TS := fun D σ H => tb (wAs K c i ts (fun _ _ _ _ => False) D) D σ H
theorem g_tryA {K : PySem.W.Frag} {c : Value} {i : Nat} {tb : WX → TS} {ts : Addr → Value → Option Addr → TS} {D : Ends} {σ : L2.St} {H : Hp} (h : tb (wAs K c i ts (fun _ _ _ _ => False) D) D σ H) : tTryA K c i tb ts D σ H := h
/-- an index that lies in the list -/
theorem atI_in {α : Type} {xs : List α} {k : Int} (h0 : 0 ≤ k) (h1 : k < xs.length) : ∃ v, atI xs k = some v ∧ v ∈ xs := by
  obtain ⟨j, rfl⟩ : ∃ j : Nat, k = (j : Int) := ⟨k.toNat, by omega⟩
  have hj : j < xs.length := by omega
  exact ⟨xs[j], atI_nat (List.getElem?_eq_getElem hj), List.getElem_mem hj⟩
end Cor
namespace Cor
open PySem PySem.Spec PyProof.Rows L2
section
variable {K : PySem.W.Frag} {H : Hp} {σ : L2.St} {Q : VK} {D : Ends} {x y : Str} {a : Addr} {b : Bool}
theorem was_yes {i : Nat} {ts : Addr → Value → Option Addr → TS} {Wout : WX} (hx : Exm K x y true)
    (h : ∀ a, H a = none → ts a (.ref (He.ga K x)) none { nx := fun σ' H' => D.nx (σ'.set i none) H', rt := D.rt, bk := fun σ' H' => D.bk (σ'.set i none) H', ct := fun σ' H' => D.ct (σ'.set i none) H' } (σ.set i (some (.ref a))) H) :
    WE (wAs K (.ref (He.ga K y)) i ts Wout D) σ (.ref (He.ga K x)) none H := ⟨true, hx, fun _ a ha => h a ha, fun z => nomatch z⟩
theorem wonly_yes {ts : Addr → Value → Option Addr → TS} {Wout : WX} (hx : Exm K x y true) (h : ∀ a, H a = none → ts a (.ref (He.ga K x)) none D σ H) :
    WE (wOnly K (.ref (He.ga K y)) ts Wout D) σ (.ref (He.ga K x)) none H := ⟨true, hx, fun _ a ha => h a ha, fun z => nomatch z⟩
theorem g_isX (hc : ExcC K (He.ga K x)) (hk : Kit K x y b) (h : Q (.bl b) H) : rIsX K (.ref (He.ga K x)) none a [.ref a, .ref (He.ga K y)] H Q :=
  ⟨He.ga K x, rfl, rfl, hc, .ref (He.ga K y), .ref (He.ga K y), b, rfl, fun _ r => r, hk, h⟩
theorem g_isXT {n : String} (hc : ExcC K (He.ga K x)) (hk : KitT K x n b) (h : Q (.bl b) H) : rIsX K (.ref (He.ga K x)) none a [.ref a, .ty n] H Q :=
  ⟨He.ga K x, rfl, rfl, hc, .ty n, .type n, b, rfl, fun _ r => r, hk, h⟩
theorem g_cat {l m : Addr} {xs zs : List V} (h1 : H l = some (.lst xs)) (h2 : H m = some (.lst zs)) (h3 : xs.length + zs.length ≤ 100000) (h : ∀ p, H p = none → Q (.ref p) (upd H p (.lst (xs ++ zs)))) : rCat (.ref l) (.ref m) H Q :=
  ⟨l, m, xs, zs, rfl, rfl, h1, h2, sz_of h3, h⟩
theorem g_ixS {z : Str} {k : Int} {c : Nat} (hl : z.length ≤ 100000) (h1 : atI z.cps.toList k = some c) (h : Q (.str ⟨#[c]⟩) H) : rIxS (.str z) (.int k) H Q := ⟨z, k, c, rfl, rfl, sz_of hl, h1, h⟩
theorem g_in {p : Addr} {xs : List V} {v : V} (hs : SqL K H p xs) (hf : flatV v = true) (hx : xs.all flatV = true) (h : Q (.bl (inV v xs)) H) : rIn K false v (.ref p) H Q := ⟨p, xs, rfl, .inl hs, hf, hx, h⟩
theorem g_notin {p : Addr} {xs : List V} {v : V} (hs : SqL K H p xs) (hf : flatV v = true) (hx : xs.all flatV = true) (h : Q (.bl (!inV v xs)) H) : rIn K true v (.ref p) H Q := ⟨p, xs, rfl, .inl hs, hf, hx, h⟩
theorem g_lenS {z : Str} (hl : z.length ≤ 100000) (h : Q (.int z.length) H) : rLenT [.str z] H Q := ⟨z, rfl, sz_of hl, h⟩
theorem flat_oV (l : List (Option Int)) : (l.map oV).all flatV = true := by
  rw [List.all_eq_true]
  intro v hv
  obtain ⟨f, _, rfl⟩ := List.mem_map.mp hv
  cases f <;> rfl
theorem flat_int (l : List Int) : (l.map V.int).all flatV = true := by
  rw [List.all_eq_true]
  intro v hv
  obtain ⟨f, _, rfl⟩ := List.mem_map.mp hv
  rfl
theorem in_oV (k : Int) (l : List (Option Int)) : inV (.int k) (l.map oV) = decide (some k ∈ l) := by
  induction l with
  | nil => rfl
  | cons f r ih =>
    have e : inV (.int k) ((f :: r).map oV) = (eqV (oV f) (.int k) || inV (.int k) (r.map oV)) := rfl
    rw [e, ih]
    cases f with
    | none =>
      show (false || decide (some k ∈ r)) = _
      rw [Bool.false_or]
      simp
    | some i =>
      show ((i == k) || decide (some k ∈ r)) = _
      by_cases q : i = k
      · subst q; simp
      · have q2 : (i == k) = false := by simpa using q
        rw [q2, Bool.false_or]
        simp [Ne.symm q]
theorem in_int (k : Int) (l : List Int) : inV (.int k) (l.map V.int) = decide (k ∈ l) := by
  induction l with
  | nil => rfl
  | cons i r ih =>
    have e : inV (.int k) ((i :: r).map V.int) = ((i == k) || inV (.int k) (r.map V.int)) := rfl
    rw [e, ih]
    by_cases q : i = k
    · subst q; simp
    · have q2 : (i == k) = false := by simpa using q
      rw [q2, Bool.false_or]
      simp [Ne.symm q]
end
end Cor
namespace Cor
open PySem PySem.Spec PyProof.Rows L2
section
variable {K : PySem.W.Frag} {σ : L2.St} {H : Hp} {D : Ends} {g : TG} {tb : TS} {tt : TT} {te : TE} {vs : List Nat} {L : Addr} {Q : VK} {n : Nat} {k : Int}
theorem g_rngS (h : g (.int k) σ H fun σ2 H2 => tb { D with nx := forRng g tb D n (k + 1), ct := forRng g tb D n (k + 1), bk := D.nx } σ2 H2) : forRng g tb D (n + 1) k σ H := h
theorem g_lcr0 (h : Q (.ref L) H) : lcRng g tt te vs σ L Q 0 k H := h
theorem g_lcrS (h : g (.int k) (wipe σ vs) H fun σ2 H2 => wipe σ2 vs = wipe σ vs ∧ tt σ2 H2 fun b H3 =>
      if b = true then te σ2 H3 fun y H4 => ∃ acc, H4 L = some (.lst acc) ∧ acc.length < sizeLine ∧ lcRng g tt te vs σ L Q n (k + 1) (upd H4 L (.lst (acc ++ [y]))) else lcRng g tt te vs σ L Q n (k + 1) H3) : lcRng g tt te vs σ L Q (n + 1) k H := h
theorem g_wip {σ1 σ2 : L2.St} {A : Prop} (e : wipe σ1 vs = wipe σ2 vs) (h : A) : wipe σ1 vs = wipe σ2 vs ∧ A := ⟨e, h⟩
theorem g_some {A : Int → Prop} {i : Int} (h : A i) : ∃ j, V.int i = .int j ∧ A j := ⟨i, rfl, h⟩
end
end Cor
namespace Cor
open PySem PySem.Spec PyProof.Rows L2
theorem g_lstRg {σ : L2.St} {H : Hp} {Q : VK} {te : TE} (h : te σ H fun x H1 => ∃ n, x = .int n ∧ (RgOk 0 n ∧ ∀ q, H1 q = none → Q (.ref q) (upd H1 q (.lst (rgV 0 n))))) : tLstRg (tRg1 te) σ H Q := h
end Cor
namespace Cor
open PySem PySem.Spec PyProof.Rows L2
section
variable {K : PySem.W.Frag} {H : Hp} {σ : L2.St} {D : Ends} {x y : Str} {ts : Addr → Value → Option Addr → TS} {l : List (Value × (Addr → Value → Option Addr → TS))} {Wout : WX}
theorem wmany_hit (hx : Exm K x y true) (h : ∀ a, H a = none → ts a (.ref (He.ga K x)) none D σ H) : WE (wMany K Wout D ((.ref (He.ga K y), ts) :: l)) σ (.ref (He.ga K x)) none H := ⟨true, hx, fun _ a ha => h a ha, fun z => nomatch z⟩
theorem wmany_skip (hx : Exm K x y false) (h : WE (wMany K Wout D l) σ (.ref (He.ga K x)) none H) : WE (wMany K Wout D ((.ref (He.ga K y), ts) :: l)) σ (.ref (He.ga K x)) none H := ⟨false, hx, (fun z => nomatch z), fun _ => h⟩
end
end Cor
namespace Cor
open PySem PySem.Spec PyProof.Rows L2
theorem ixN_nn {n : Nat} {i : Int} (h0 : 0 ≤ i) (h1 : i < n) : ixN n i = some i.toNat := by
  unfold ixN
  rw [if_pos h0, if_pos h1]
end Cor

/-! ## PuK -/
local macro_rules | `(tactic| walk_at "go1") => `(tactic| first
  | (with_reducible first
    | refine Cor.g_seq ?_ | refine Cor.g_asg ?_ | refine Cor.g_ret ?_ | refine Cor.g_drop ?_ | refine Cor.g_ifs ?_ | refine Cor.g_op ?_
    | refine Cor.g_c ?_ | refine Cor.g_cons ?_ | refine Cor.g_nil ?_ | refine Cor.g_I0 ?_ | refine Cor.g_test ?_ | refine Cor.g_B ?_ | refine Cor.g_blV ?_ | refine L2.iteT ?_ | refine L2.iteF ?_ | refine Cor.iteNT ?_ | refine Cor.iteNF ?_
    | refine Cor.g_CB ?_ | refine Cor.g_call ?_ | refine Cor.g_lst ?_ | refine Cor.g_tup ?_ | refine Cor.g_and ?_ | refine Cor.g_or ?_ | refine Cor.g_not ?_ | refine Cor.g_andV ?_ | refine Cor.g_orV ?_ | refine Cor.g_notV ?_
    | refine Cor.g_chain ?_ | refine Cor.g_un ?_ | refine Cor.g_U ?_ | refine Cor.g_ifE ?_ | refine Cor.g_fld ?_ | refine Cor.g_isN0 ?_ | refine Cor.g_isN1 ?_ | refine Cor.g_isN2 ?_ | refine Cor.g_notN0 ?_ | refine Cor.g_notN1 ?_ | refine Cor.g_notN2 ?_ | refine Cor.g_eqS ?_ | refine Cor.g_neS ?_ | refine Cor.g_raise ?_ | refine Cor.g_M1 ?_ | refine Cor.g_tryO ?_ | refine Cor.g_tryA ?_ | refine Cor.g_tryM ?_ | refine Cor.g_eqI ?_ | refine Cor.g_neI ?_ | refine Cor.g_next ?_ | refine Cor.g_yes ?_ | refine Cor.g_rng0 ?_ | refine Cor.g_rngS ?_ | refine Cor.g_lcr0 ?_ | refine Cor.g_lcrS ?_ | refine Cor.g_some ?_
    | refine Cor.g_sub ?_ | refine Cor.g_bm ?_ | refine Cor.g_bm0 ?_ | refine Cor.g_callS ?_ | refine Cor.g_dget ?_ | refine Cor.g_din ?_ | refine Cor.g_dnotin ?_ | refine Cor.g_dput ?_ | refine Cor.g_sl ?_ | refine Cor.g_part ?_ | refine Cor.g_nopart ?_ | refine Cor.g_brk ?_ | refine Cor.g_cont ?_ | refine Cor.g_meth ?_ | refine Cor.g_methT ?_ | refine Cor.g_sfld ?_ | refine Cor.g_lstRg ?_)
  | ((with_reducible refine' Cor.g_var ?e ?_); (case e => exact rfl))
  | ((with_reducible refine' Cor.g_name ?e ?_); (case e => exact rfl))
  | ((with_reducible refine Cor.g_new ?e ?_); (case e => exact rfl))
  | ((with_reducible refine Cor.g_wip ?e ?_); (case e => exact rfl))
  | ((with_reducible refine Cor.g_mod ?e ?_); (case e => first | decide | assumption | omega))
  | ((with_reducible refine Cor.g_div ?e ?f ?_); (case e => first | decide | assumption | omega); (case f => first | decide | assumption | omega)))
local macro_rules | `(tactic| walk_at "go") => `(tactic| repeat (walk_at "go1"))
local macro_rules | `(tactic| walk_at "nx") => `(tactic| repeat (with_reducible first
    | refine L2.iteT ?_ | refine L2.iteF ?_ | refine Cor.iteNT ?_ | refine Cor.iteNF ?_ | refine Cor.g_blV ?_ | refine Cor.g_next ?_ | refine Cor.g_isN0 ?_ | refine Cor.g_isN1 ?_ | refine Cor.g_isN2 ?_ | refine Cor.g_notN0 ?_ | refine Cor.g_notN1 ?_ | refine Cor.g_notN2 ?_))
/-! ### figures; the laws' cells, whole numbers -/
namespace Cor
open PySem PySem.Spec PyProof.Rows L2
/-- figures(number): a new list -/
def figs (n : Int) : List V := [.int (n / 100), .int (n / 10 % 10), .int (n % 10)]
def sp_figures (K : PySem.W.Frag) : Sp := fun vs H Q _ => ∃ n, vs = [.int n] ∧ ∀ p, H p = none → Q (.ref p) (upd H p (.lst (figs n)))
/-- figures: slots number -/
def t_figures (K : PySem.W.Frag) (E : XK) : TS :=
  tRet (tLst (tCons (tOp rDivI (tVar 0) (tC (.int 100))) (tCons (tOp rModI (tOp rDivI (tVar 0) (tC (.int 10))) (tC (.int 10))) (tCons (tOp rModI (tVar 0) (tC (.int 10))) tNil))))
abbrev n_figures : List Str := ["number"]

section
variable {K : PySem.W.Frag} {vs : List V} {H : Hp} {Q : VK} {E : XK}
theorem len_figures (h : sp_figures K vs H Q E) : vs.length = (["number"] : List Str).length := by
  obtain ⟨_, rfl, _⟩ := h
  rfl
end
theorem pure_figures (K : PySem.W.Frag) (vs : List V) (H : Hp) (Q : VK) (E : XK) (h : sp_figures K vs H Q E) : t_figures K E { nx := fun _ H' => Q .non H', rt := Q } (start n_figures vs) H := by
  obtain ⟨n, rfl, k⟩ := h
  unfold t_figures
  walk_at "go"
  exact k
/-- the laws' cell -/
def cell (ns : List Int) (k : Int) : Int := ns.getD k.toNat 0
def sp_law_cell_at (K : PySem.W.Frag) : Sp := fun vs H Q _ => ∃ a ns k, vs = [.ref a, .int k] ∧ SqL K H a (ns.map V.int) ∧ 0 ≤ k ∧ Q (.int (cell ns k)) H
/-- _law_cell_at: slots script, k -/
def t_law_cell_at (K : PySem.W.Frag) (E : XK) : TS :=
  tSeq (tIfS (tTest (tOp rLtI (tVar 1) (tCB (rLenL K) (tCons (tVar 0) tNil)))) (tRet (tOp (rIxL K) (tVar 0) (tVar 1))) tNext) (tRet (tC (.int 0)))
abbrev n_law_cell_at : List Str := ["script", "k"]

theorem len_law_cell_at {K : PySem.W.Frag} {vs : List V} {H : Hp} {Q : VK} {E : XK} (h : sp_law_cell_at K vs H Q E) : vs.length = (["script", "k"] : List Str).length := by
  obtain ⟨_, _, _, rfl, _⟩ := h
  rfl
theorem atI_map {ns : List Int} {k : Int} (h0 : 0 ≤ k) (h1 : k < ns.length) : atI (ns.map V.int) k = some (.int (cell ns k)) := by
  obtain ⟨j, rfl⟩ : ∃ j : Nat, k = (j : Int) := ⟨k.toNat, by omega⟩
  have hj : j < ns.length := by omega
  refine atI_nat ?_
  rw [List.getElem?_map, List.getElem?_eq_getElem hj]
  show some (V.int ns[j]) = some (V.int (cell ns (j : Int)))
  unfold cell
  rw [Int.toNat_natCast, List.getD_eq_getElem?_getD, List.getElem?_eq_getElem hj]
  rfl
theorem pure_law_cell_at (K : PySem.W.Frag) (vs : List V) (H : Hp) (Q : VK) (E : XK) (h : sp_law_cell_at K vs H Q E) : t_law_cell_at K E { nx := fun _ H' => Q .non H', rt := Q } (start n_law_cell_at vs) H := by
  obtain ⟨a, ns, k, rfl, hS, h0, q⟩ := h
  unfold t_law_cell_at
  walk_at "go"
  refine g_lenL hS ?_
  walk_at "go"
  refine g_iteD (fun hk => ?_) (fun hk => ?_)
  · rw [List.length_map] at hk
    walk_at "go"
    exact g_ixL hS (atI_map h0 hk) q
  · rw [List.length_map] at hk
    walk_at "go"
    have e : cell ns k = 0 := by
      unfold cell
      rw [List.getD_eq_getElem?_getD, List.getElem?_eq_none (by omega)]
      rfl
    rw [← e]
    exact q
/-- a whole number -/
def sp_law_whole (K : PySem.W.Frag) : Sp := fun vs H Q _ => ∃ i, vs = [.int i] ∧ Q (.bl true) H
/-- _law_whole: slots found -/
def t_law_whole (K : PySem.W.Frag) (E : XK) : TS :=
  tRet (tAndV (tCB (rIsi K) (tCons (tVar 0) (tCons (tC (.ty "int")) tNil))) (tNotV (tCB (rIsi K) (tCons (tVar 0) (tCons (tC (.ty "bool")) tNil)))))
abbrev n_law_whole : List Str := ["found"]

theorem len_law_whole {K : PySem.W.Frag} {vs : List V} {H : Hp} {Q : VK} {E : XK} (h : sp_law_whole K vs H Q E) : vs.length = (["found"] : List Str).length := by
  obtain ⟨_, rfl, _⟩ := h
  rfl
theorem tx_int {K : PySem.W.Frag} {H : Hp} {i : Int} : TyX K H (.int i) (.type "int") := .base (.int i)
theorem pure_law_whole (K : PySem.W.Frag) (vs : List V) (H : Hp) (Q : VK) (E : XK) (h : sp_law_whole K vs H Q E) : t_law_whole K E { nx := fun _ H' => Q .non H', rt := Q } (start n_law_whole vs) H := by
  obtain ⟨i, rfl, q⟩ := h
  unfold t_law_whole
  walk_at "go"
  refine g_isi (b := true) tx_int (show L2.kitB "int" "int" = some true by decide +kernel) ?_
  walk_at "go"
  refine g_isi (b := false) tx_int (show L2.kitB "int" "bool" = some false by decide +kernel) ?_
  walk_at "go"
  exact q
end Cor

/-! ## MTree -/
/-! ### rows of a book: plain -/
namespace Cor
section
variable {δ : Type}
abbrev RwD (δ : Type) := Option Int × δ × Int
abbrev RowsD (δ : Type) := List (Int × RwD δ)
def rget (R : RowsD δ) (k : Int) : Option (RwD δ) := (R.find? fun p => decide (p.1 = k)).map (·.2)
def rput (R : RowsD δ) (k : Int) (w : RwD δ) : RowsD δ := if (R.any fun p => decide (p.1 = k)) = true then R.map (fun p => if p.1 = k then (p.1, w) else p) else R ++ [(k, w)]
def keysR (R : RowsD δ) : List Int := R.map (·.1)
abbrev Asc (l : List Int) : Prop := l.Pairwise (· < ·)
theorem rget_nil {k : Int} : rget ([] : RowsD δ) k = none := rfl
theorem rget_pos {p : Int × RwD δ} {r : RowsD δ} {k : Int} (e : p.1 = k) : rget (p :: r) k = some p.2 := by simp [rget, List.find?_cons, e]
theorem rget_neg {p : Int × RwD δ} {r : RowsD δ} {k : Int} (e : ¬ p.1 = k) : rget (p :: r) k = rget r k := by simp [rget, List.find?_cons, e]
theorem rget_any (k : Int) : ∀ R : RowsD δ, (R.any fun p => decide (p.1 = k)) = (rget R k).isSome
  | [] => rfl
  | p :: r => by
    rw [List.any_cons]
    by_cases e : p.1 = k
    · simp only [rget_pos e, decide_eq_true e, Bool.true_or, Option.isSome_some]
    · rw [rget_neg e, decide_eq_false e, Bool.false_or]; exact rget_any k r
theorem rget_map (k : Int) (f : Int × RwD δ → RwD δ) : ∀ R : RowsD δ, rget (R.map fun p => (p.1, f p)) k = (rget R k).map fun w => f (k, w)
  | [] => rfl
  | p :: r => by
    rw [List.map_cons]
    by_cases e : p.1 = k
    · rw [rget_pos (p := (p.1, f p)) e, rget_pos e, Option.map_some, ← e]
    · rw [rget_neg (p := (p.1, f p)) e, rget_neg e]; exact rget_map k f r
theorem rget_snoc (k j : Int) (w : RwD δ) : ∀ R : RowsD δ, rget R k = none → rget (R ++ [(k, w)]) j = if j = k then some w else rget R j
  | [], _ => by
    by_cases e : k = j
    · rw [if_pos e.symm]; exact rget_pos (p := (k, w)) e
    · rw [if_neg (fun z => e z.symm)]; exact rget_neg (p := (k, w)) e
  | p :: r, hn => by
    rw [List.cons_append]
    have hk : ¬ p.1 = k := fun z => by rw [rget_pos z] at hn; cases hn
    rw [rget_neg hk] at hn
    have ih := rget_snoc k j w r hn
    by_cases e : p.1 = j
    · rw [rget_pos e, rget_pos e, if_neg (fun z => hk (e.trans z))]
    · rw [rget_neg e, rget_neg e, ih]
theorem rput_new {R : RowsD δ} {k : Int} {w : RwD δ} (h : rget R k = none) : rput R k w = R ++ [(k, w)] := by
  unfold rput
  rw [rget_any, h]
  exact if_neg (fun z => by cases z)
theorem rput_old {R : RowsD δ} {k : Int} {w z : RwD δ} (h : rget R k = some z) : rput R k w = R.map fun p => (p.1, if p.1 = k then w else p.2) := by
  unfold rput
  rw [rget_any, h]
  refine (if_pos rfl).trans (List.map_congr_left fun p _ => ?_)
  by_cases e : p.1 = k
  · rw [if_pos e, if_pos e]
  · rw [if_neg e, if_neg e]
theorem rget_put (R : RowsD δ) (k j : Int) (w : RwD δ) : rget (rput R k w) j = if j = k then some w else rget R j := by
  cases h : rget R k with
  | none => rw [rput_new h, rget_snoc k j w R h]
  | some z =>
    rw [rput_old h, rget_map]
    by_cases e : j = k
    · subst e; rw [h, Option.map_some, if_pos rfl, if_pos rfl]
    · rw [if_neg e]
      cases rget R j with
      | none => rfl
      | some x => rw [Option.map_some, if_neg e]
theorem keys_rput {R : RowsD δ} {k : Int} {w z : RwD δ} (h : rget R k = some z) : keysR (rput R k w) = keysR R := by
  rw [rput_old h]
  unfold keysR
  rw [List.map_map] <;> rfl
theorem mem_keys {R : RowsD δ} {k : Int} : k ∈ keysR R ↔ (rget R k).isSome = true := by
  rw [← rget_any, List.any_eq_true]
  unfold keysR
  rw [List.mem_map]
  exact ⟨fun ⟨p, hp, e⟩ => ⟨p, hp, decide_eq_true e⟩, fun ⟨p, hp, e⟩ => ⟨p, hp, of_decide_eq_true e⟩⟩
theorem rget_key {R : RowsD δ} {k : Int} {w : RwD δ} (h : rget R k = some w) : k ∈ keysR R := mem_keys.mpr (by rw [h] <;> rfl)
theorem key_rget {R : RowsD δ} {k : Int} (h : k ∈ keysR R) : ∃ w, rget R k = some w := Option.isSome_iff_exists.mp (mem_keys.mp h)
theorem rget_none {R : RowsD δ} {k : Int} : rget R k = none ↔ k ∉ keysR R := by
  rw [mem_keys]
  cases rget R k <;> simp
theorem rget_mem {R : RowsD δ} {k : Int} {w : RwD δ} (h : rget R k = some w) : (k, w) ∈ R := by
  unfold rget at h
  cases e : R.find? fun p => decide (p.1 = k) with
  | none => rw [e] at h; cases h
  | some p =>
    rw [e] at h
    have h1 : p.2 = w := Option.some.inj h
    have h2 : p.1 = k := by
      have h3 := List.find?_some e
      exact of_decide_eq_true h3
    have := List.mem_of_find?_eq_some e
    rw [← h1, ← h2]
    exact this
theorem asc_nodup {l : List Int} (h : Asc l) : l.Nodup := h.imp fun h => by omega
theorem mem_rget {R : RowsD δ} (hn : (keysR R).Nodup) {k : Int} {w : RwD δ} (h : (k, w) ∈ R) : rget R k = some w := by
  induction R with
  | nil => cases h
  | cons p r ih =>
    have hn' : (p.1 :: keysR r).Nodup := hn
    rw [List.nodup_cons] at hn'
    rcases List.mem_cons.mp h with rfl | h
    · exact rget_pos rfl
    · have : ¬ p.1 = k := by
        rintro rfl
        exact hn'.1 (List.mem_map.mpr ⟨_, h, rfl⟩)
      rw [rget_neg this]
      exact ih hn'.2 h
theorem keys_len (R : RowsD δ) : (keysR R).length = R.length := List.length_map _
/-! ### the line over a cord -/
inductive Line (R : RowsD δ) : Option Int → List Int → Prop
  | nil : Line R none []
  | cons {c : Int} {w : RwD δ} {L : List Int} : rget R c = some w → Line R w.1 L → Line R (some c) (c :: L)
theorem Line.det {R : RowsD δ} {o : Option Int} {L : List Int} (h : Line R o L) : ∀ {L' : List Int}, Line R o L' → L' = L := by
  induction h with
  | nil => intro L' h'; cases h'; rfl
  | cons e _ ih =>
    intro L' h'
    cases h' with
    | cons e' h'' =>
      rw [e] at e'
      cases e'
      rw [ih h'']
theorem Line.keys {R : RowsD δ} {o : Option Int} {L : List Int} (h : Line R o L) : ∀ x ∈ L, x ∈ keysR R := by
  induction h with
  | nil => intro x hx; cases hx
  | cons e _ ih =>
    intro x hx
    rcases List.mem_cons.mp hx with rfl | hx
    · exact rget_key e
    · exact ih x hx
/-- the line from a cord of the line on -/
theorem Line.from {R : RowsD δ} {o : Option Int} {L : List Int} (h : Line R o L) : ∀ x ∈ L, ∃ A B, L = A ++ x :: B ∧ Line R (some x) (x :: B) := by
  induction h with
  | nil => intro x hx; cases hx
  | @cons c w L e hl ih =>
    intro x hx
    by_cases q : x = c
    · subst q
      exact ⟨[], L, rfl, .cons e hl⟩
    · rcases List.mem_cons.mp hx with rfl | hx
      · exact absurd rfl q
      · obtain ⟨A, B, e1, h1⟩ := ih x hx
        exact ⟨c :: A, B, by rw [e1] <;> rfl, h1⟩
theorem Line.head {R : RowsD δ} {c : Int} {L : List Int} (h : Line R (some c) L) : c ∈ L := by
  cases h
  exact List.mem_cons_self
theorem Line.nodup {R : RowsD δ} {o : Option Int} {L : List Int} (h : Line R o L) : L.Nodup := by
  induction h with
  | nil => exact List.nodup_nil
  | @cons c w L e hl ih =>
    refine List.nodup_cons.mpr ⟨fun hm => ?_, ih⟩
    obtain ⟨A, B, e1, h1⟩ := hl.from c hm
    have e2 := (Line.cons e hl).det h1
    injection e2 with _ e2
    have l1 := congrArg List.length e1
    rw [e2, List.length_append, List.length_cons] at l1
    omega
theorem Line.trans {R : RowsD δ} {o : Option Int} {L L' : List Int} {x c : Int} (h : Line R o L) (hx : x ∈ L) (h' : Line R (some x) L') (hc : c ∈ L') : c ∈ L := by
  obtain ⟨A, B, e, h1⟩ := h.from x hx
  rw [h1.det h'] at hc
  rw [e]
  exact List.mem_append_right _ hc
/-- two cords over each other are one -/
theorem Line.anti {R : RowsD δ} {x c : Int} {L L' : List Int} (h : Line R (some x) L) (hc : c ∈ L) (h' : Line R (some c) L') (hx : x ∈ L') : x = c := by
  obtain ⟨A, B, e, h1⟩ := h.from c hc
  have e1 := h1.det h'
  rw [e1] at hx
  cases h with
  | @cons _ w L2 eg hl =>
    cases A with
    | nil => injection e
    | cons a A =>
      rw [List.cons_append] at e
      injection e with e2 e3
      have nd := (Line.cons eg hl).nodup
      rw [List.nodup_cons] at nd
      exact absurd (by rw [e3]; exact List.mem_append_right _ hx) nd.1
theorem nodup_len {l : List Int} : ∀ {m : List Int}, l.Nodup → (∀ x ∈ l, x ∈ m) → l.length ≤ m.length := by
  induction l with
  | nil => intro m _ _; exact Nat.zero_le _
  | cons a l ih =>
    intro m hn hs
    rw [List.nodup_cons] at hn
    have ha := hs a List.mem_cons_self
    have h1 : l.length ≤ (m.erase a).length := ih hn.2 fun x hx => by
      refine (List.mem_erase_of_ne ?_).mpr (hs x (List.mem_cons_of_mem _ hx))
      rintro rfl
      exact hn.1 hx
    rw [List.length_erase_of_mem ha] at h1
    have := List.length_pos_of_mem ha
    rw [List.length_cons]
    omega
theorem Line.len {R : RowsD δ} {o : Option Int} {L : List Int} (h : Line R o L) : L.length ≤ R.length := by
  rw [← keys_len]
  exact nodup_len h.nodup h.keys
def lineF (R : RowsD δ) : Nat → Option Int → List Int
  | _, none => []
  | 0, some _ => []
  | f + 1, some c => c :: (match rget R c with
    | none => []
    | some w => lineF R f w.1)
theorem lineF_eq {R : RowsD δ} {o : Option Int} {L : List Int} (h : Line R o L) : ∀ f, L.length ≤ f → lineF R f o = L := by
  induction h with
  | nil => intro f _; cases f <;> rfl
  | @cons c w L e hl ih =>
    intro f hf
    cases f with
    | zero => cases hf
    | succ f =>
      show c :: (match rget R c with | none => [] | some w => lineF R f w.1) = _
      rw [e]
      show c :: lineF R f w.1 = _
      rw [ih f (by rw [List.length_cons] at hf; omega)]
def lineR (R : RowsD δ) (o : Option Int) : List Int := lineF R R.length o
theorem Line.eq {R : RowsD δ} {o : Option Int} {L : List Int} (h : Line R o L) : lineR R o = L := lineF_eq h _ h.len
structure Wf (R : RowsD δ) : Prop where
  asc : Asc (keysR R)
  line : ∀ k ∈ keysR R, ∃ L, Line R (some k) L
theorem Wf.nd {R : RowsD δ} (h : Wf R) : (keysR R).Nodup := asc_nodup h.asc
theorem Wf.of {R : RowsD δ} (h : Wf R) {c : Int} {w : RwD δ} (e : rget R c = some w) : Line R (some c) (lineR R (some c)) := by
  obtain ⟨L, hL⟩ := h.line c (rget_key e)
  rw [hL.eq]
  exact hL
theorem Wf.over {R : RowsD δ} (h : Wf R) {c : Int} {w : RwD δ} (e : rget R c = some w) : Line R w.1 (lineR R w.1) := by
  have h1 := h.of e
  generalize lineR R (some c) = L at h1
  cases h1 with
  | cons e' hl =>
    rw [e] at e'
    cases e'
    rw [hl.eq]
    exact hl
theorem Wf.lineC {R : RowsD δ} (h : Wf R) {c : Int} {w : RwD δ} (e : rget R c = some w) : lineR R (some c) = c :: lineR R w.1 := (Line.cons e (h.over e)).eq
theorem Wf.none {R : RowsD δ} : Line R none (lineR R none) := by
  rw [Line.nil.eq]
  exact .nil
/-- an over is there -/
theorem Wf.over_in {R : RowsD δ} (h : Wf R) {c o : Int} {w : RwD δ} (e : rget R c = some w) (ho : w.1 = some o) : ∃ z, rget R o = some z := by
  have h1 := h.over e
  rw [ho] at h1
  generalize lineR R (some o) = L at h1
  cases h1 with
  | cons e' _ => exact ⟨_, e'⟩
/-! ### those that hang -/
def hangR (R : RowsD δ) (o : Option Int) : List Int := (R.filter fun p => decide (p.2.1 = o)).map (·.1)
theorem mem_hang {R : RowsD δ} (hn : (keysR R).Nodup) {o : Option Int} {h : Int} : h ∈ hangR R o ↔ ∃ w, rget R h = some w ∧ w.1 = o := by
  unfold hangR
  rw [List.mem_map]
  constructor
  · rintro ⟨p, hp, rfl⟩
    rw [List.mem_filter] at hp
    exact ⟨p.2, mem_rget hn hp.1, of_decide_eq_true hp.2⟩
  · rintro ⟨w, e, ho⟩
    exact ⟨(h, w), List.mem_filter.mpr ⟨rget_mem e, decide_eq_true ho⟩, rfl⟩
theorem hang_sub {R : RowsD δ} {o : Option Int} : List.Sublist (hangR R o) (keysR R) := List.Sublist.map _ List.filter_sublist
theorem hang_asc {R : RowsD δ} (h : Asc (keysR R)) {o : Option Int} : Asc (hangR R o) := h.sublist hang_sub
theorem hang_len {R : RowsD δ} {o : Option Int} : (hangR R o).length ≤ R.length := by
  rw [← keys_len]
  exact hang_sub.length_le
/-! ### beneath -/
def Under (R : RowsD δ) (c y : Int) : Prop := ∃ L, Line R (some y) L ∧ c ∈ L
theorem under_iff {R : RowsD δ} (h : Wf R) {c y : Int} (hy : y ∈ keysR R) : Under R c y ↔ c ∈ lineR R (some y) := by
  obtain ⟨w, e⟩ := key_rget hy
  exact ⟨fun ⟨L, h1, h2⟩ => by rw [h1.eq]; exact h2, fun h2 => ⟨_, h.of e, h2⟩⟩
theorem Under.key {R : RowsD δ} {c y : Int} (h : Under R c y) : y ∈ keysR R := by
  obtain ⟨L, h1, h2⟩ := h
  exact h1.keys y h1.head
theorem Under.refl {R : RowsD δ} (h : Wf R) {c : Int} (hc : c ∈ keysR R) : Under R c c := by
  obtain ⟨L, h1⟩ := h.line c hc
  exact ⟨L, h1, h1.head⟩
theorem Under.hang {R : RowsD δ} (h : Wf R) {c x y : Int} (hx : Under R c x) (hy : y ∈ hangR R (some x)) : Under R c y := by
  obtain ⟨w, e, ho⟩ := (mem_hang h.nd).mp hy
  obtain ⟨L, h1, h2⟩ := hx
  exact ⟨y :: L, .cons e (by rw [ho]; exact h1), List.mem_cons_of_mem _ h2⟩
/-- a closed list holds all that is beneath -/
theorem closed_all {R : RowsD δ} (h : Wf R) {c : Int} {S : List Int} (hc : c ∈ S) (hS : ∀ x ∈ S, ∀ y ∈ hangR R (some x), y ∈ S) {y : Int} (hy : Under R c y) : y ∈ S := by
  obtain ⟨L, h1, h2⟩ := hy
  have key : ∀ {o : Option Int} {L : List Int}, Line R o L → c ∈ L → ∀ y, o = some y → y ∈ S := by
    intro o L hl
    induction hl with
    | nil => intro h2; cases h2
    | @cons x w L e hl ih =>
      intro h2 y ey
      cases ey
      by_cases q : x = c
      · rw [q]; exact hc
      · rcases List.mem_cons.mp h2 with rfl | h2
        · exact absurd rfl q
        · cases ew : w.1 with
          | none => rw [ew] at hl; cases hl; cases h2
          | some z => exact hS z (ih h2 z ew) x ((mem_hang h.nd).mpr ⟨w, e, ew⟩)
  exact key h1 h2 y rfl
def underL (R : RowsD δ) (c : Int) : List Int := (keysR R).filter fun y => decide (c ∈ lineR R (some y))
theorem mem_underL {R : RowsD δ} (h : Wf R) {c y : Int} : y ∈ underL R c ↔ Under R c y := by
  unfold underL
  rw [List.mem_filter]
  constructor
  · rintro ⟨h1, h2⟩
    exact (under_iff h h1).mpr (of_decide_eq_true h2)
  · intro hu
    exact ⟨hu.key, decide_eq_true ((under_iff h hu.key).mp hu)⟩
theorem underL_asc {R : RowsD δ} (h : Asc (keysR R)) {c : Int} : Asc (underL R c) := h.sublist List.filter_sublist
end
end Cor

/-! ## MBook -/
/-! ### a book's deeds: plain -/
namespace Cor
section
variable {δ : Type}
/-! beneath, breadth first -/
structure BInv (R : RowsD δ) (c : Int) (done todo : List Int) : Prop where
  nd : (done ++ todo).Nodup
  un : ∀ y ∈ done ++ todo, Under R c y
  hd : c ∈ done ++ todo
  cl : ∀ x ∈ done, ∀ y ∈ hangR R (some x), y ∈ done ++ todo
  fr : ∀ y ∈ done ++ todo, y = c ∨ ∃ x ∈ done, y ∈ hangR R (some x)
theorem BInv.start {R : RowsD δ} (h : Wf R) {c : Int} (hc : c ∈ keysR R) : BInv R c [] [c] :=
  ⟨by simp, fun y hy => by rw [List.mem_singleton.mp hy]; exact Under.refl h hc, List.mem_singleton.mpr rfl, fun x hx => by (cases hx), fun y hy => .inl (List.mem_singleton.mp hy)⟩
theorem BInv.step {R : RowsD δ} (h : Wf R) {c x : Int} {done r : List Int} (b : BInv R c done (x :: r)) : BInv R c (done ++ [x]) (r ++ hangR R (some x)) := by
  have e : (done ++ [x]) ++ (r ++ hangR R (some x)) = (done ++ x :: r) ++ hangR R (some x) := by simp
  have hx : x ∈ done ++ x :: r := by simp
  refine ⟨?_, ?_, ?_, ?_, ?_⟩
  · rw [e]
    refine List.nodup_append.mpr ⟨b.nd, asc_nodup (hang_asc h.asc), ?_⟩
    rintro y hy z hz rfl
    obtain ⟨w, ew, ho⟩ := (mem_hang h.nd).mp hz
    rcases b.fr y hy with rfl | ⟨x', hx', hy'⟩
    · obtain ⟨L, h1, h2⟩ := b.un x hx
      have h3 : Line R (some y) (y :: L) := .cons ew (by rw [ho]; exact h1)
      have q := h1.anti h2 h3 (List.mem_cons_of_mem _ h1.head)
      subst q
      have := h3.nodup
      rw [List.nodup_cons] at this
      exact this.1 h2
    · obtain ⟨w', ew', ho'⟩ := (mem_hang h.nd).mp hy'
      rw [ew] at ew'
      cases ew'
      have q : x = x' := Option.some.inj (ho.symm.trans ho')
      subst q
      exact (List.nodup_append.mp b.nd).2.2 x hx' x List.mem_cons_self rfl
  · rw [e]
    intro y hy
    rcases List.mem_append.mp hy with hy | hy
    · exact b.un y hy
    · exact (b.un x hx).hang h hy
  · rw [e]
    exact List.mem_append_left _ b.hd
  · rw [e]
    intro z hz y hy
    rcases List.mem_append.mp hz with hz | hz
    · exact List.mem_append_left _ (b.cl z hz y hy)
    · rw [List.mem_singleton.mp hz] at hy
      exact List.mem_append_right _ hy
  · rw [e]
    intro y hy
    rcases List.mem_append.mp hy with hy | hy
    · rcases b.fr y hy with q | ⟨z, hz, q⟩
      · exact .inl q
      · exact .inr ⟨z, List.mem_append_left _ hz, q⟩
    · exact .inr ⟨x, List.mem_append_right _ (List.mem_singleton.mpr rfl), hy⟩
theorem BInv.len {R : RowsD δ} {c : Int} {done todo : List Int} (b : BInv R c done todo) : done.length + todo.length ≤ R.length := by
  rw [← keys_len, ← List.length_append]
  exact nodup_len b.nd fun x hx => (b.un x hx).key
theorem BInv.fin {R : RowsD δ} (h : Wf R) {c : Int} {done : List Int} (b : BInv R c done []) : done.Nodup ∧ ∀ y, y ∈ done ↔ Under R c y := by
  have nd := b.nd
  have hd := b.hd
  have cl := b.cl
  rw [List.append_nil] at nd hd
  refine ⟨nd, fun y => ⟨fun hy => b.un y (List.mem_append_left _ hy), fun hy => ?_⟩⟩
  exact closed_all h hd (fun x hx y hy => by have := cl x hx y hy; rw [List.append_nil] at this; exact this) hy
/-! what depends on the overs alone -/
def shape (R : RowsD δ) : List (Int × Option Int) := R.map fun p => (p.1, p.2.1)
theorem shape_keys {δ' : Type} {R : RowsD δ} {R' : RowsD δ'} (e : shape R = shape R') : keysR R = keysR R' := by
  have h : ∀ {α : Type} (S : RowsD α), keysR S = (shape S).map (·.1) := fun S => by
    unfold shape keysR
    rw [List.map_map] <;> rfl
  rw [h, h, e]
theorem shape_hang {δ' : Type} {R : RowsD δ} {R' : RowsD δ'} (e : shape R = shape R') (o : Option Int) : hangR R o = hangR R' o := by
  have h : ∀ {α : Type} (S : RowsD α), hangR S o = ((shape S).filter fun p => decide (p.2 = o)).map (·.1) := fun S => by
    unfold shape hangR
    induction S with
    | nil => rfl
    | cons p r ih =>
      rw [List.map_cons, List.filter_cons, List.filter_cons]
      by_cases q : p.2.1 = o
      · rw [if_pos (decide_eq_true q), if_pos (decide_eq_true q), List.map_cons, List.map_cons, ih]
      · rw [if_neg (by rw [decide_eq_false q]; exact Bool.false_ne_true), if_neg (by rw [decide_eq_false q]; exact Bool.false_ne_true), ih]
  rw [h, h, e]
theorem shape_over {δ' : Type} {R : RowsD δ} {R' : RowsD δ'} (e : shape R = shape R') (k : Int) : (rget R k).map (·.1) = (rget R' k).map (·.1) := by
  induction R generalizing R' with
  | nil =>
    cases R' with
    | nil => rfl
    | cons p r => cases e
  | cons p r ih =>
    cases R' with
    | nil => cases e
    | cons p' r' =>
      have e1 : (p.1, p.2.1) = (p'.1, p'.2.1) := (List.cons.inj e).1
      have e2 : shape r = shape r' := (List.cons.inj e).2
      injection e1 with e3 e4
      by_cases q : p.1 = k
      · rw [rget_pos q, rget_pos (e3.symm.trans q), Option.map_some, Option.map_some, e4]
      · rw [rget_neg q, rget_neg (fun z => q (e3.trans z)), ih e2]
theorem shape_line {δ' : Type} {R : RowsD δ} {R' : RowsD δ'} (e : shape R = shape R') {o : Option Int} {L : List Int} (h : Line R o L) : Line R' o L := by
  induction h with
  | nil => exact .nil
  | @cons c w L eg hl ih =>
    have h1 := shape_over e c
    rw [eg] at h1
    cases eg' : rget R' c with
    | none => rw [eg'] at h1; cases h1
    | some w' =>
      rw [eg'] at h1
      have h2 : w.1 = w'.1 := Option.some.inj h1
      exact .cons eg' (by rw [← h2]; exact ih)
theorem shape_wf {δ' : Type} {R : RowsD δ} {R' : RowsD δ'} (e : shape R = shape R') (h : Wf R) : Wf R' := by
  have ek := shape_keys e
  refine ⟨by rw [← ek]; exact h.asc, fun k hk => ?_⟩
  rw [← ek] at hk
  obtain ⟨L, hL⟩ := h.line k hk
  exact ⟨L, shape_line e hL⟩
theorem shape_len {δ' : Type} {R : RowsD δ} {R' : RowsD δ'} (e : shape R = shape R') : R.length = R'.length := by
  rw [← keys_len, ← keys_len, shape_keys e]
/-! an amount for some -/
def numR (R : RowsD δ) (x : Int) : Int := match rget R x with
  | some w => w.2.2
  | none => 0
def addR (w : RwD δ) (a : Int) : RwD δ := (w.1, w.2.1, w.2.2 + a)
def growR (R : RowsD δ) (L : List Int) (a : Int) : RowsD δ := R.map fun p => (p.1, if p.1 ∈ L then addR p.2 a else p.2)
theorem grow_nil (R : RowsD δ) (a : Int) : growR R [] a = R := by
  unfold growR
  refine (List.map_congr_left fun p _ => ?_).trans (List.map_id _)
  rw [if_neg (by simp)] <;> rfl
theorem grow_cons {R : RowsD δ} {x : Int} {L : List Int} {a : Int} {w : RwD δ} (e : rget R x = some w) (hn : (keysR R).Nodup) (hx : x ∉ L) : growR (rput R x (addR w a)) L a = growR R (x :: L) a := by
  rw [rput_old e]
  unfold growR
  rw [List.map_map]
  refine List.map_congr_left fun p hp => ?_
  show (p.1, if p.1 ∈ L then addR (if p.1 = x then addR w a else p.2) a else (if p.1 = x then addR w a else p.2)) = _
  by_cases q : p.1 = x
  · have e2 : p.2 = w := by
      have := mem_rget hn (k := p.1) (w := p.2) hp
      rw [q, e] at this
      exact (Option.some.inj this).symm
    rw [q, if_neg hx, if_pos rfl, if_pos List.mem_cons_self, e2]
  · rw [if_neg q]
    by_cases m : p.1 ∈ L
    · rw [if_pos m, if_pos (List.mem_cons_of_mem _ m)]
    · rw [if_neg m, if_neg (fun z => (List.mem_cons.mp z).elim q m)]
theorem shape_grow (R : RowsD δ) (L : List Int) (a : Int) : shape (growR R L a) = shape R := by
  unfold shape growR
  rw [List.map_map]
  refine List.map_congr_left fun p _ => ?_
  show (p.1, (if p.1 ∈ L then addR p.2 a else p.2).1) = _
  split <;> rfl
theorem rget_grow (R : RowsD δ) (L : List Int) (a : Int) (k : Int) : rget (growR R L a) k = (rget R k).map fun w => if k ∈ L then addR w a else w := rget_map k _ R
theorem num_grow {R : RowsD δ} {L : List Int} {a : Int} {k : Int} {w : RwD δ} (e : rget R k = some w) : numR (growR R L a) k = numR R k + if k ∈ L then a else 0 := by
  unfold numR
  rw [rget_grow, e]
  show (if k ∈ L then addR w a else w).2.2 = w.2.2 + _
  split
  · rfl
  · rw [Int.add_zero]
/-! the book -/
structure Bs (δ : Type) where
  R : RowsD δ
  fol : Int
  past : List (Int × RowsD δ)
structure Ok1 (R : RowsD δ) (f : Int) : Prop where
  wf : Wf R
  lo : ∀ k ∈ keysR R, 0 ≤ k ∧ k < f
structure OkB (s : Bs δ) : Prop where
  now : Ok1 s.R s.fol
  past : ∀ p ∈ s.past, Ok1 p.2 p.1
  f0 : 0 ≤ s.fol
  fp : ∀ p ∈ s.past, 0 ≤ p.1
theorem asc_len {l : List Int} : ∀ {a b : Int}, Asc l → (∀ k ∈ l, a ≤ k ∧ k < b) → l.length ≤ (b - a).toNat := by
  induction l with
  | nil => intro a b _ _; exact Nat.zero_le _
  | cons x l ih =>
    intro a b h hl
    have h1 := hl x List.mem_cons_self
    have hp := List.pairwise_cons.mp h
    have := ih (a := x + 1) (b := b) hp.2 fun k hk => ⟨hp.1 k hk, (hl k (List.mem_cons_of_mem _ hk)).2⟩
    rw [List.length_cons]
    omega
theorem Ok1.len {R : RowsD δ} {f : Int} (h : Ok1 R f) : R.length ≤ f.toNat := by
  rw [← keys_len]
  have := asc_len h.wf.asc h.lo
  rw [Int.sub_zero] at this
  exact this
theorem Ok1.new {R : RowsD δ} {f : Int} (h : Ok1 R f) : rget R f = none := by
  rw [rget_none]
  intro hf
  have := (h.lo f hf).2
  omega
def keep (s : Bs δ) (R' : RowsD δ) : Bs δ := ⟨R', s.fol, s.past ++ [(s.fol, s.R)]⟩
/-! hanging -/
def hangOk (s : Bs δ) (o : Option Int) (d : δ) : Bs δ := ⟨s.R ++ [(s.fol, (o, d, 0))], s.fol + 1, s.past ++ [(s.fol, s.R)]⟩
def hangB (s : Bs δ) (o : Option Int) (d : δ) : Except String (Int × Bs δ) := match o with
  | none => .ok (s.fol, hangOk s o d)
  | some c => (match rget s.R c with
    | none => .error "NoCord"
    | some w => if hangR s.R (some c) = [] ∧ w.2.2 ≠ 0 then .error "Knotted" else .ok (s.fol, hangOk s o d))
theorem Line.snoc {R : RowsD δ} {f : Int} {w : RwD δ} (hf : rget R f = none) {o : Option Int} {L : List Int} (h : Line R o L) : Line (R ++ [(f, w)]) o L := by
  induction h with
  | nil => exact .nil
  | @cons c z L e hl ih =>
    refine .cons (w := z) ?_ ih
    rw [rget_snoc f c w R hf, if_neg (fun q => by rw [q, hf] at e; cases e)]
    exact e
theorem keys_snoc (R : RowsD δ) (f : Int) (w : RwD δ) : keysR (R ++ [(f, w)]) = keysR R ++ [f] := by
  unfold keysR
  rw [List.map_append] <;> rfl
theorem Ok1.hang {R : RowsD δ} {f : Int} (h : Ok1 R f) (f0 : 0 ≤ f) {w : RwD δ} (ho : ∀ c, w.1 = some c → ∃ z, rget R c = some z) : Ok1 (R ++ [(f, w)]) (f + 1) := by
  refine ⟨⟨?_, ?_⟩, ?_⟩
  · rw [keys_snoc]
    refine List.pairwise_append.mpr ⟨h.wf.asc, by simp, fun a ha b hb => ?_⟩
    rw [List.mem_singleton.mp hb]
    exact (h.lo a ha).2
  · intro k hk
    rw [keys_snoc] at hk
    rcases List.mem_append.mp hk with hk | hk
    · obtain ⟨L, hL⟩ := h.wf.line k hk
      exact ⟨L, hL.snoc h.new⟩
    · rw [List.mem_singleton.mp hk]
      cases e : w.1 with
      | none => exact ⟨[f], .cons (w := w) (by rw [rget_snoc f f w R h.new, if_pos rfl]) (by rw [e]; exact .nil)⟩
      | some c =>
        obtain ⟨z, hz⟩ := ho c e
        obtain ⟨L, hL⟩ := h.wf.line c (rget_key hz)
        exact ⟨f :: L, .cons (w := w) (by rw [rget_snoc f f w R h.new, if_pos rfl]) (by rw [e]; exact hL.snoc h.new)⟩
  · intro k hk
    rw [keys_snoc] at hk
    rcases List.mem_append.mp hk with hk | hk
    · have := h.lo k hk
      omega
    · rw [List.mem_singleton.mp hk]
      omega
theorem OkB.kept {s : Bs δ} (h : OkB s) {R' : RowsD δ} (h' : Ok1 R' s.fol) : OkB (keep s R') := by
  refine ⟨h', fun p hp => ?_, h.f0, fun p hp => ?_⟩
  · rcases List.mem_append.mp hp with hp | hp
    · exact h.past p hp
    · rw [List.mem_singleton.mp hp]; exact h.now
  · rcases List.mem_append.mp hp with hp | hp
    · exact h.fp p hp
    · rw [List.mem_singleton.mp hp]; exact h.f0
theorem OkB.hangOk {s : Bs δ} (h : OkB s) {o : Option Int} {d : δ} (ho : ∀ c, o = some c → ∃ z, rget s.R c = some z) : OkB (hangOk s o d) := by
  refine ⟨h.now.hang h.f0 ho, fun p hp => ?_, Int.le_trans h.f0 (by show s.fol ≤ s.fol + 1; omega), fun p hp => ?_⟩
  · rcases List.mem_append.mp hp with hp | hp
    · exact h.past p hp
    · rw [List.mem_singleton.mp hp]; exact h.now
  · rcases List.mem_append.mp hp with hp | hp
    · exact h.fp p hp
    · rw [List.mem_singleton.mp hp]; exact h.f0
theorem hangB_ok {s s' : Bs δ} (h : OkB s) {o : Option Int} {d : δ} {n : Int} (e : hangB s o d = .ok (n, s')) : OkB s' ∧ n = s.fol ∧ s' = Cor.hangOk s o d := by
  unfold hangB at e
  split at e
  · cases e
    exact ⟨h.hangOk fun c z => (by cases z), rfl, rfl⟩
  · rename_i c
    split at e
    · cases e
    · rename_i w ew
      split at e
      · cases e
      · cases e
        exact ⟨h.hangOk fun c' z => (by cases z; exact ⟨w, ew⟩), rfl, rfl⟩
/-! laying -/
def layX (R : RowsD δ) (c a : Int) : Option String := match rget R c with
  | none => some "NoCord"
  | some _ => if hangR R (some c) ≠ [] then some "NotEnd" else
    if ∃ x ∈ lineR R (some c), ¬ (0 ≤ numR R x + a ∧ numR R x + a ≤ 999) then some "TooMuch" else none
def layB (s : Bs δ) (c a : Int) : Except String (Int × Bs δ) := match layX s.R c a with
  | some x => .error x
  | none => .ok (numR s.R c + a, keep s (growR s.R (lineR s.R (some c)) a))
theorem layX_none {R : RowsD δ} {c a : Int} (e : rget R c = none) : layX R c a = some "NoCord" := by
  unfold layX
  rw [e]
theorem layX_some {R : RowsD δ} {c a : Int} {w : RwD δ} (e : rget R c = some w) : layX R c a = if hangR R (some c) ≠ [] then some "NotEnd" else
    if ∃ x ∈ lineR R (some c), ¬ (0 ≤ numR R x + a ∧ numR R x + a ≤ 999) then some "TooMuch" else none := by
  unfold layX
  rw [e]
theorem numR_some {R : RowsD δ} {c : Int} {w : RwD δ} (e : rget R c = some w) : numR R c = w.2.2 := by
  unfold numR
  rw [e]
theorem layX_ok {R : RowsD δ} {c a : Int} (e : layX R c a = none) : (∃ w, rget R c = some w) ∧ hangR R (some c) = [] ∧ ∀ x ∈ lineR R (some c), 0 ≤ numR R x + a ∧ numR R x + a ≤ 999 := by
  cases h : rget R c with
  | none => rw [layX_none h] at e; cases e
  | some w =>
    rw [layX_some h] at e
    split at e
    · cases e
    · rename_i h1
      split at e
      · cases e
      · rename_i h2
        exact ⟨⟨w, rfl⟩, Decidable.of_not_not h1, fun x hx => Decidable.of_not_not fun z => h2 ⟨x, hx, z⟩⟩
theorem Ok1.shp {R R' : RowsD δ} {f : Int} (h : Ok1 R f) (e : shape R = shape R') : Ok1 R' f := ⟨shape_wf e h.wf, by rw [← shape_keys e]; exact h.lo⟩
theorem layB_ok {s s' : Bs δ} (h : OkB s) {c a n : Int} (e : layB s c a = .ok (n, s')) : OkB s' ∧ layX s.R c a = none ∧ n = numR s.R c + a ∧ s' = keep s (growR s.R (lineR s.R (some c)) a) := by
  unfold layB at e
  split at e
  · cases e
  · rename_i hx
    cases e
    exact ⟨h.kept (h.now.shp (shape_grow _ _ _).symm), hx, rfl, rfl⟩
/-! moving -/
def moveR (R : RowsD δ) (c : Int) (p : Option Int) (w : RwD δ) : RowsD δ := rput (growR (growR R (lineR R w.1) (-w.2.2)) (lineR R p) w.2.2) c (p, w.2.1, w.2.2)
/-- what the place says against it -/
def moveX (s : Bs δ) (c : Int) : Option Int → Option String
  | none => none
  | some q => (match rget s.R q with
    | none => some "NoCord"
    | some z => if c ∈ lineR s.R (some q) then some "Ring" else if hangR s.R (some q) = [] ∧ z.2.2 ≠ 0 then some "Knotted" else none)
def moveB (s : Bs δ) (c : Int) (p : Option Int) : Except String (Int × Bs δ) := match rget s.R c with
  | none => .error "NoCord"
  | some w => (match moveX s c p with
    | some x => .error x
    | none => if ∃ x ∈ lineR s.R p, x ∉ lineR s.R w.1 ∧ numR s.R x + w.2.2 > 999 then .error "TooMuch" else .ok (w.2.2, keep s (moveR s.R c p w)))
theorem moveB_eq {s : Bs δ} {c : Int} {p : Option Int} {w : RwD δ} (e : rget s.R c = some w) : moveB s c p = (match moveX s c p with
    | some x => .error x
    | none => if ∃ x ∈ lineR s.R p, x ∉ lineR s.R w.1 ∧ numR s.R x + w.2.2 > 999 then .error "TooMuch" else .ok (w.2.2, keep s (moveR s.R c p w))) := by
  unfold moveB
  rw [e]
theorem moveX_none {s : Bs δ} {c q : Int} (e : rget s.R q = none) : moveX s c (some q) = some "NoCord" := by
  unfold moveX
  dsimp only
  rw [e]
theorem moveX_some {s : Bs δ} {c q : Int} {z : RwD δ} (e : rget s.R q = some z) : moveX s c (some q) = if c ∈ lineR s.R (some q) then some "Ring" else if hangR s.R (some q) = [] ∧ z.2.2 ≠ 0 then some "Knotted" else none := by
  unfold moveX
  dsimp only
  rw [e]
/-- a place that nothing is said against -/
theorem moveX_free {s : Bs δ} {c : Int} {p : Option Int} (e : moveX s c p = none) (h : Wf s.R) : Line s.R p (lineR s.R p) ∧ c ∉ lineR s.R p := by
  cases p with
  | none => rw [Line.nil.eq]; exact ⟨.nil, by simp⟩
  | some q =>
    cases eq : rget s.R q with
    | none => rw [moveX_none eq] at e; cases e
    | some z =>
      rw [moveX_some eq] at e
      split at e
      · cases e
      · rename_i hc
        exact ⟨h.of eq, hc⟩
def moveE (s : Bs δ) (c : Int) (p : Option Int) : Option String := match moveB s c p with
  | .error x => some x
  | .ok _ => none
theorem moveE_some {s : Bs δ} {c : Int} {p : Option Int} {x : String} (e : moveE s c p = some x) : moveB s c p = .error x := by
  unfold moveE at e
  split at e
  · rename_i h; cases e; exact h
  · cases e
theorem moveE_err {s : Bs δ} {c : Int} {p : Option Int} {x : String} (e : moveB s c p = .error x) : moveE s c p = some x := by
  unfold moveE
  rw [e]
theorem moveE_ok {s : Bs δ} {c : Int} {p : Option Int} {r : Int × Bs δ} (e : moveB s c p = .ok r) : moveE s c p = none := by
  unfold moveE
  rw [e]
theorem moveE_is {s : Bs δ} {c : Int} {p : Option Int} {x : String} (e : moveE s c p = some x) : x = "NoCord" ∨ x = "Ring" ∨ x = "Knotted" ∨ x = "TooMuch" := by
  have e := moveE_some e
  cases h : rget s.R c with
  | none =>
    unfold moveB at e
    rw [h] at e
    cases e
    exact .inl rfl
  | some w =>
    rw [moveB_eq h] at e
    cases hp : moveX s c p with
    | some y =>
      rw [hp] at e
      cases e
      cases p with
      | none => cases hp
      | some q =>
        cases hq : rget s.R q with
        | none => rw [moveX_none hq] at hp; cases hp; exact .inl rfl
        | some z =>
          rw [moveX_some hq] at hp
          split at hp
          · cases hp; exact .inr (.inl rfl)
          · split at hp
            · cases hp; exact .inr (.inr (.inl rfl))
            · cases hp
    | none =>
      rw [hp] at e
      dsimp only at e
      split at e
      · cases e; exact .inr (.inr (.inr rfl))
      · cases e
/-- a line that does not hold c, when c is stored anew -/
theorem Line.putOff {R : RowsD δ} {c : Int} {w : RwD δ} {o : Option Int} {L : List Int} (h : Line R o L) : c ∉ L → Line (rput R c w) o L := by
  induction h with
  | nil => intro _; exact .nil
  | @cons x z L e hl ih =>
    intro hc
    rw [List.mem_cons, not_or] at hc
    refine .cons (w := z) ?_ (ih hc.2)
    rw [rget_put, if_neg (Ne.symm hc.1)]
    exact e
theorem Wf.put {R : RowsD δ} (h : Wf R) {c : Int} {w z : RwD δ} (e : rget R c = some z) {L : List Int} (hL : Line R w.1 L) (hc : c ∉ L) : Wf (rput R c w) := by
  refine ⟨by rw [keys_rput e]; exact h.asc, fun k hk => ?_⟩
  rw [keys_rput e] at hk
  obtain ⟨L1, h1⟩ := h.line k hk
  have key : ∀ {o : Option Int} {L1 : List Int}, Line R o L1 → ∃ L', Line (rput R c w) o L' := by
    intro o L1 h1
    induction h1 with
    | nil => exact ⟨[], .nil⟩
    | @cons x y L2 ex hl ih =>
      by_cases q : x = c
      · subst q
        exact ⟨x :: L, .cons (w := w) (by rw [rget_put, if_pos rfl]) (hL.putOff hc)⟩
      · obtain ⟨L', h'⟩ := ih
        exact ⟨x :: L', .cons (w := y) (by rw [rget_put, if_neg q]; exact ex) h'⟩
  exact key h1
theorem grow_get {R : RowsD δ} {L : List Int} {a k : Int} {w : RwD δ} (e : rget R k = some w) (hk : k ∉ L) : rget (growR R L a) k = some w := by
  rw [rget_grow, e, Option.map_some, if_neg hk]
theorem Ok1.move {R : RowsD δ} {f : Int} (h : Ok1 R f) {c : Int} {p : Option Int} {w : RwD δ} (e : rget R c = some w) {L : List Int} (hL : Line R p L) (hc : c ∉ L) : Ok1 (moveR R c p w) f := by
  unfold moveR
  have h2 : shape R = shape (growR (growR R (lineR R w.1) (-w.2.2)) (lineR R p) w.2.2) := by rw [shape_grow, shape_grow]
  have h1 := h.shp h2
  have e1 : ∃ z, rget (growR (growR R (lineR R w.1) (-w.2.2)) (lineR R p) w.2.2) c = some z := by
    refine key_rget ?_
    rw [← shape_keys h2]
    exact rget_key e
  obtain ⟨z, e1⟩ := e1
  exact ⟨h1.wf.put e1 (shape_line h2 hL) hc, by rw [keys_rput e1]; exact h1.lo⟩
theorem moveB_ok {s s' : Bs δ} (h : OkB s) {c n : Int} {p : Option Int} (e : moveB s c p = .ok (n, s')) : OkB s' ∧ ∃ w, rget s.R c = some w ∧ n = w.2.2 ∧ s' = keep s (moveR s.R c p w) ∧ ∃ L, Line s.R p L ∧ c ∉ L := by
  unfold moveB at e
  split at e
  · cases e
  · rename_i w ew
    split at e
    · cases e
    · rename_i hp
      split at e
      · cases e
      · cases e
        obtain ⟨h1, h2⟩ := moveX_free hp h.now.wf
        exact ⟨h.kept (h.now.move ew h1 h2), w, ew, rfl, rfl, _, h1, h2⟩
/-! cutting -/
def cutR (R : RowsD δ) (c : Int) (w : RwD δ) : RowsD δ := (growR R (lineR R w.1) (-w.2.2)).filter fun p => decide (p.1 ∉ underL R c)
def cutB (s : Bs δ) (c : Int) : Except String (List Int × Bs δ) := match rget s.R c with
  | none => .error "NoCord"
  | some w => .ok (underL s.R c, keep s (cutR s.R c w))
theorem rget_filter {R : RowsD δ} {P : Int → Bool} {k : Int} : rget (R.filter fun p => P p.1) k = if P k = true then rget R k else none := by
  induction R with
  | nil => rw [List.filter_nil, rget_nil]; split <;> rfl
  | cons p r ih =>
    rw [List.filter_cons]
    by_cases q : p.1 = k
    · subst q
      by_cases h : P p.1 = true
      · rw [if_pos h, if_pos h, rget_pos rfl, rget_pos rfl]
      · rw [if_neg h, ih, if_neg h, if_neg h]
    · rw [rget_neg q]
      by_cases h : P p.1 = true
      · rw [if_pos h, rget_neg q, ih]
      · rw [if_neg h, ih]
theorem keys_filter {R : RowsD δ} {P : Int → Bool} : keysR (R.filter fun p => P p.1) = (keysR R).filter P := by
  unfold keysR
  induction R with
  | nil => rfl
  | cons p r ih =>
    rw [List.filter_cons, List.map_cons, List.filter_cons]
    split
    · rw [List.map_cons, ih]
    · rw [ih]
theorem Wf.filter {R : RowsD δ} (h : Wf R) {P : Int → Bool} (hP : ∀ k ∈ keysR R, P k = true → ∀ L, Line R (some k) L → ∀ x ∈ L, P x = true) : Wf (R.filter fun p => P p.1) := by
  refine ⟨by rw [keys_filter]; exact h.asc.sublist List.filter_sublist, fun k hk => ?_⟩
  rw [keys_filter, List.mem_filter] at hk
  obtain ⟨L, hL⟩ := h.line k hk.1
  have key : ∀ {o : Option Int} {L : List Int}, Line R o L → (∀ x ∈ L, P x = true) → Line (R.filter fun p => P p.1) o L := by
    intro o L h1
    induction h1 with
    | nil => intro _; exact .nil
    | @cons x y L2 ex hl ih =>
      intro ha
      refine .cons (w := y) ?_ (ih fun z hz => ha z (List.mem_cons_of_mem _ hz))
      rw [rget_filter, if_pos (ha x List.mem_cons_self)]
      exact ex
  exact ⟨L, key hL (hP k hk.1 hk.2 L hL)⟩
theorem Ok1.cut {R : RowsD δ} {f : Int} (h : Ok1 R f) {c : Int} (w : RwD δ) : Ok1 (cutR R c w) f := by
  unfold cutR
  have h2 : shape R = shape (growR R (lineR R w.1) (-w.2.2)) := by rw [shape_grow]
  have h1 := h.shp h2
  have hw := h1.wf.filter (P := fun k => decide (k ∉ underL R c)) fun k hk hP L hL x hx => ?_
  · refine ⟨hw, fun k hk => ?_⟩
    have hk' : k ∈ (keysR (growR R (lineR R w.1) (-w.2.2))).filter fun k => decide (k ∉ underL R c) := by
      rw [← keys_filter]
      exact hk
    rw [List.mem_filter] at hk'
    exact h1.lo k hk'.1
  · have hk1 := of_decide_eq_true hP
    refine decide_eq_true fun hu => hk1 ?_
    rw [mem_underL h.wf] at hu ⊢
    obtain ⟨L', h3, h4⟩ := hu
    have hL' := shape_line h2.symm hL
    exact ⟨L, hL', hL'.trans hx h3 h4⟩
theorem cutB_ok {s s' : Bs δ} (h : OkB s) {c : Int} {g : List Int} (e : cutB s c = .ok (g, s')) : OkB s' ∧ g = underL s.R c ∧ ∃ w, rget s.R c = some w ∧ s' = keep s (cutR s.R c w) := by
  unfold cutB at e
  split at e
  · cases e
  · rename_i w ew
    cases e
    exact ⟨h.kept (h.now.cut w), rfl, w, ew, rfl⟩
/-! undoing -/
def undoB (s : Bs δ) : Except String (Int × Bs δ) := match s.past.getLast? with
  | none => .error "Nothing"
  | some p => .ok ((s.past.dropLast.length : Int), ⟨p.2, p.1, s.past.dropLast⟩)
theorem undoB_ok {s s' : Bs δ} (h : OkB s) {n : Int} (e : undoB s = .ok (n, s')) : OkB s' ∧ n = s'.past.length ∧ s.past = s'.past ++ [(s'.fol, s'.R)] := by
  unfold undoB at e
  split at e
  · cases e
  · rename_i p hp
    cases e
    have hm := List.mem_of_getLast? hp
    have hd : ∀ q ∈ s.past.dropLast, q ∈ s.past := fun q hq => List.dropLast_subset _ hq
    refine ⟨⟨h.past p hm, fun q hq => h.past q (hd q hq), h.fp p hm, fun q hq => h.fp q (hd q hq)⟩, rfl, ?_⟩
    have hne : s.past ≠ [] := by
      intro z
      rw [z] at hp
      cases hp
    have e1 : s.past.getLast hne = p := by
      rw [List.getLast?_eq_some_getLast hne] at hp
      exact Option.some.inj hp
    show s.past = s.past.dropLast ++ [(p.1, p.2)]
    rw [← e1]
    exact (List.dropLast_concat_getLast hne).symm
/-! the sum under a dye -/
def dyeN [DecidableEq δ] (R : RowsD δ) (d : δ) (y : Int) : Int := if hangR R (some y) = [] ∧ (rget R y).map (·.2.1) = some d then numR R y else 0
def dyedR [DecidableEq δ] (R : RowsD δ) (c : Int) (d : δ) : Int := ((underL R c).map (dyeN R d)).sum
theorem perm_sum {l m : List Int} (h : l.Perm m) : l.sum = m.sum := by
  induction h with
  | nil => rfl
  | cons x _ ih => rw [List.sum_cons, List.sum_cons, ih]
  | swap x y l => rw [List.sum_cons, List.sum_cons, List.sum_cons, List.sum_cons]; omega
  | trans _ _ h1 h2 => rw [h1, h2]
theorem under_perm {R : RowsD δ} (h : Wf R) {c : Int} {L : List Int} (nd : L.Nodup) (hm : ∀ y, y ∈ L ↔ Under R c y) : L.Perm (underL R c) :=
  (List.perm_ext_iff_of_nodup nd (asc_nodup (underL_asc h.asc))).mpr fun y => (hm y).trans (mem_underL h).symm
end
end Cor

/-! ## PuB -/
/-! ### a book in the heap -/
namespace Cor
open PySem PySem.Spec PyProof.Rows L2
abbrev Rows := RowsD Str
abbrev Bk := Bs Str
structure BookC (K : PySem.W.Frag) : Prop where
  cl : Cls K (He.ga K "Book")
  rows : NoAttr K (He.ga K "Book") "rows"
  fol : NoAttr K (He.ga K "Book") "following"
  past : NoAttr K (He.ga K "Book") "past"
abbrev rowV (w : RwD Str) : List V := [oV w.1, .str w.2.1, .int w.2.2]
abbrev RowsAt (H : Hp) : List (Key × V) → Rows → Prop := Paired fun p q => p.1 = Sum.inl q.1 ∧ ∃ t, p.2 = .ref t ∧ H t = some (.tup (rowV q.2))
def PastAt (H : Hp) : List V → List Addr → List (Int × Rows) → Prop
  | [], [], [] => True
  | v :: vs, d :: ds, p :: ps => (∃ t kvs, v = .ref t ∧ H t = some (.tup [.int p.1, .ref d]) ∧ H d = some (.dK kvs) ∧ RowsAt H kvs p.2) ∧ PastAt H vs ds ps
  | _, _, _ => False
def flds (d l : Addr) (f : Int) : List (Str × V) := [("rows", .ref d), ("following", .int f), ("past", .ref l)]
structure BookAt (K : PySem.W.Frag) (H : Hp) (b dx d l : Addr) (ds : List Addr) (kvs : List (Key × V)) (pvs : List V) (s : Bk) : Prop where
  ins : H b = some (.ins (He.ga K "Book") dx (flds d l s.fol))
  dic : H d = some (.dK kvs)
  rows : RowsAt H kvs s.R
  lst : H l = some (.lst pvs)
  past : PastAt H pvs ds s.past
  nd : (d :: ds).Nodup
def Book (K : PySem.W.Frag) (H : Hp) (b : Addr) (fp : List Addr) (s : Bk) : Prop := ∃ dx d l ds kvs pvs, fp = b :: d :: l :: ds ∧ BookAt K H b dx d l ds kvs pvs s
/-- all but the addresses fp is as it was -/
def Keeps (fp : List Addr) (H H' : Hp) : Prop := ∀ a u, H a = some u → a ∉ fp → H' a = some u
def Grows (fp fp' : List Addr) (H : Hp) : Prop := ∀ a ∈ fp', a ∈ fp ∨ H a = none
theorem Keeps.of {fp : List Addr} {H H' : Hp} (e : Same H H') : Keeps fp H H' := fun a u h _ => e a u h
theorem Keeps.trans {fp fp' : List Addr} {H H1 H2 : Hp} (a : Keeps fp H H1) (g : Grows fp fp' H) (b : Keeps fp' H1 H2) : Keeps fp H H2 := fun c u h hc => b c u (a c u h hc) fun hc' => by
  rcases g c hc' with z | z
  · exact hc z
  · rw [z] at h; cases h
theorem Grows.refl (fp : List Addr) (H : Hp) : Grows fp fp H := fun a h => .inl h
theorem Grows.trans {fp fp1 fp2 : List Addr} {H H1 : Hp} (g : Grows fp fp1 H) (k : Keeps fp H H1) (g1 : Grows fp1 fp2 H1) : Grows fp fp2 H := fun a h => by
  rcases g1 a h with z | z
  · exact g a z
  · by_cases q : a ∈ fp
    · exact .inl q
    · right
      cases e : H a with
      | none => rfl
      | some u => rw [k a u e q] at z; cases z
/-- apart stays apart -/
theorem Grows.out {fp fp' : List Addr} {H : Hp} (g : Grows fp fp' H) {a : Addr} {u : HO} (h : H a = some u) (ha : a ∉ fp) : a ∉ fp' := fun z => by
  rcases g a z with z | z
  · exact ha z
  · rw [z] at h; cases h
section
variable {K : PySem.W.Frag} {H H' : Hp} {b dx d l : Addr} {ds fp : List Addr} {kvs : List (Key × V)} {pvs : List V} {s : Bk} {R : Rows}
theorem RowsAt.mono {R : Rows} {kvs : List (Key × V)} (h : RowsAt H kvs R) (k : ∀ t xs, H t = some (.tup xs) → H' t = some (.tup xs)) : RowsAt H' kvs R := by
  unfold RowsAt at h ⊢
  induction h with
  | nil => exact .nil
  | cons h _ ih =>
    obtain ⟨h1, t, h2, h3⟩ := h
    exact .cons ⟨h1, t, h2, k _ _ h3⟩ ih
theorem RowsAt.len {R : Rows} {kvs : List (Key × V)} (h : RowsAt H kvs R) : kvs.length = R.length := Paired.length h
theorem RowsAt.get {R : Rows} {kvs : List (Key × V)} (h : RowsAt H kvs R) (k : Int) : (rget R k = none → valV kvs (Sum.inl k) = none) ∧ ∀ w, rget R k = some w → ∃ t, valV kvs (Sum.inl k) = some (.ref t) ∧ H t = some (.tup (rowV w)) := by
  unfold RowsAt at h
  induction h with
  | nil => exact ⟨fun _ => rfl, fun w e => by cases e⟩
  | @cons p q ps qs h _ ih =>
    obtain ⟨h1, t, h2, h3⟩ := h
    by_cases e : q.1 = k
    · have e1 : p.1 = Sum.inl k := by rw [h1, e]
      rw [rget_pos e, valV_pos e1]
      exact ⟨fun z => (by cases z), fun w z => (by cases z; exact ⟨t, by rw [h2], h3⟩)⟩
    · have e1 : ¬ p.1 = Sum.inl k := by rw [h1]; intro z; injection z with z; exact e z
      rw [rget_neg e, valV_neg e1]
      exact ih
theorem RowsAt.any {R : Rows} {kvs : List (Key × V)} (h : RowsAt H kvs R) (k : Int) : (kvs.any fun kv => decide (kv.1 = (Sum.inl k : Key))) = R.any fun p => decide (p.1 = k) := by
  rw [valV_any, rget_any]
  cases e : rget R k with
  | none => rw [(h.get k).1 e] <;> rfl
  | some w =>
    obtain ⟨t, e1, _⟩ := (h.get k).2 w e
    rw [e1] <;> rfl
theorem RowsAt.put {R : Rows} {kvs : List (Key × V)} (h : RowsAt H kvs R) (k : Int) {w : RwD Str} {t : Addr} (ht : H t = some (.tup (rowV w))) : RowsAt H (putK kvs (Sum.inl k) (.ref t)) (rput R k w) := by
  unfold putK rput
  rw [h.any k]
  split
  · rename_i hh
    clear hh
    unfold RowsAt at h ⊢
    induction h with
    | nil => exact .nil
    | @cons p q ps qs h _ ih =>
      obtain ⟨h1, t', h2, h3⟩ := h
      rw [List.map_cons, List.map_cons]
      refine .cons ?_ ih
      by_cases e : q.1 = k
      · rw [if_pos e, if_pos (by rw [h1, e])]
        exact ⟨h1, t, rfl, ht⟩
      · rw [if_neg e, if_neg (by rw [h1]; intro z; injection z with z; exact e z)]
        exact ⟨h1, t', h2, h3⟩
  · exact Paired.snoc h ⟨rfl, t, rfl, ht⟩
theorem RowsAt.keys {R : Rows} {kvs : List (Key × V)} (h : RowsAt H kvs R) : kvs.map (fun kv => kV kv.1) = (keysR R).map V.int := by
  unfold RowsAt at h
  induction h with
  | nil => rfl
  | @cons p q ps qs h _ ih =>
    rw [List.map_cons, ih, h.1] <;> rfl
theorem PastAt.mono : ∀ {pvs : List V} {ds : List Addr} {ps : List (Int × Rows)}, PastAt H pvs ds ps → (∀ t xs, H t = some (.tup xs) → H' t = some (.tup xs)) → (∀ a ∈ ds, ∀ u, H a = some u → H' a = some u) → PastAt H' pvs ds ps
  | [], [], [], _, _, _ => True.intro
  | v :: vs, d :: ds, p :: ps, h, k, kd => by
    obtain ⟨⟨t, kvs, h1, h2, h3, h4⟩, h5⟩ := h
    exact ⟨⟨t, kvs, h1, k _ _ h2, kd d List.mem_cons_self _ h3, h4.mono k⟩, PastAt.mono h5 k fun a ha => kd a (List.mem_cons_of_mem _ ha)⟩
  | [], [], _ :: _, h, _, _ => h.elim
  | [], _ :: _, _, h, _, _ => h.elim
  | _ :: _, [], _, h, _, _ => h.elim
  | _ :: _, _ :: _, [], h, _, _ => h.elim
theorem PastAt.dic : ∀ {pvs : List V} {ds : List Addr} {ps : List (Int × Rows)}, PastAt H pvs ds ps → ∀ a ∈ ds, ∃ kvs, H a = some (.dK kvs)
  | [], [], [], _, a, ha => by cases ha
  | v :: vs, d :: ds, p :: ps, h, a, ha => by
    obtain ⟨⟨t, kvs, h1, h2, h3, h4⟩, h5⟩ := h
    rcases List.mem_cons.mp ha with rfl | ha
    · exact ⟨kvs, h3⟩
    · exact PastAt.dic h5 a ha
  | [], [], _ :: _, h, _, _ => h.elim
  | [], _ :: _, _, h, _, _ => h.elim
  | _ :: _, [], _, h, _, _ => h.elim
  | _ :: _, _ :: _, [], h, _, _ => h.elim
theorem PastAt.len : ∀ {pvs : List V} {ds : List Addr} {ps : List (Int × Rows)}, PastAt H pvs ds ps → pvs.length = ps.length
  | [], [], [], _ => rfl
  | v :: vs, d :: ds, p :: ps, h => by
    rw [List.length_cons, List.length_cons, PastAt.len h.2]
  | [], [], _ :: _, h => h.elim
  | [], _ :: _, _, h => h.elim
  | _ :: _, [], _, h => h.elim
  | _ :: _, _ :: _, [], h => h.elim
theorem PastAt.snoc : ∀ {pvs : List V} {ds : List Addr} {ps : List (Int × Rows)}, PastAt H pvs ds ps → ∀ {t d : Addr} {kvs : List (Key × V)} {p : Int × Rows}, H t = some (.tup [.int p.1, .ref d]) → H d = some (.dK kvs) → RowsAt H kvs p.2 → PastAt H (pvs ++ [.ref t]) (ds ++ [d]) (ps ++ [p])
  | [], [], [], _, t, d, kvs, p, h1, h2, h3 => ⟨⟨t, kvs, rfl, h1, h2, h3⟩, True.intro⟩
  | v :: vs, d :: ds, p :: ps, h, t', d', kvs', p', h1, h2, h3 => ⟨h.1, PastAt.snoc h.2 h1 h2 h3⟩
  | [], [], _ :: _, h, _, _, _, _, _, _, _ => h.elim
  | [], _ :: _, _, h, _, _, _, _, _, _, _ => h.elim
  | _ :: _, [], _, h, _, _, _, _, _, _, _ => h.elim
  | _ :: _, _ :: _, [], h, _, _, _, _, _, _, _ => h.elim
theorem Book.same (B : Book K H b fp s) (e : Same H H') : Book K H' b fp s := by
  obtain ⟨dx, d, l, ds, kvs, pvs, rfl, h1, h2, h3, h4, h5, h6⟩ := B
  exact ⟨dx, d, l, ds, kvs, pvs, rfl, e _ _ h1, e _ _ h2, h3.mono fun t xs => e _ _, e _ _ h4, h5.mono (fun t xs => e _ _) fun a _ u => e _ _, h6⟩
/-- what stands at a book's own addresses -/
theorem Book.fpK (B : Book K H b fp s) {a : Addr} (ha : a ∈ fp) : (∃ C dx fs, H a = some (.ins C dx fs)) ∨ (∃ kvs, H a = some (.dK kvs)) ∨ ∃ pvs, a ≠ b ∧ H a = some (.lst pvs) := by
  obtain ⟨dx, d, l, ds, kvs, pvs, rfl, h1, h2, h3, h4, h5, h6⟩ := B
  rcases List.mem_cons.mp ha with rfl | ha
  · exact .inl ⟨_, _, _, h1⟩
  rcases List.mem_cons.mp ha with rfl | ha
  · exact .inr (.inl ⟨_, h2⟩)
  rcases List.mem_cons.mp ha with rfl | ha
  · refine .inr (.inr ⟨_, ?_, h4⟩)
    rintro rfl
    rw [h1] at h4; cases h4
  · exact .inr (.inl (h5.dic a ha))
theorem Book.tup (B : Book K H b fp s) {t : Addr} {xs : List V} (h : H t = some (.tup xs)) : t ∉ fp := fun z => by
  rcases B.fpK z with ⟨_, _, _, e⟩ | ⟨_, e⟩ | ⟨_, _, e⟩ <;> (rw [e] at h; cases h)
theorem Book.new (B : Book K H b fp s) {t : Addr} (h : H t = none) : t ∉ fp := fun z => by
  rcases B.fpK z with ⟨_, _, _, e⟩ | ⟨_, e⟩ | ⟨_, _, e⟩ <;> (rw [e] at h; cases h)
theorem Book.keepT (B : Book K H b fp s) (k : Keeps fp H H') {t : Addr} {xs : List V} (h : H t = some (.tup xs)) : H' t = some (.tup xs) := k t _ h (B.tup h)
theorem Book.b_in (B : Book K H b fp s) : b ∈ fp := by
  obtain ⟨dx, d, l, ds, kvs, pvs, rfl, _⟩ := B
  exact List.mem_cons_self
theorem Book.meth {m : Str} {A : Prop} (B : Book K H b fp s) (h : A) (hm : ((m == ("rows" : Str)) || (m == "following") || (m == "past")) = false := by decide +kernel) :
    ∃ a dx fs, V.ref b = .ref a ∧ H a = some (.ins (He.ga K "Book") dx fs) ∧ fs.lookup m = none ∧ A := by
  obtain ⟨dx, d, l, ds, kvs, pvs, rfl, h1, _⟩ := B
  refine ⟨b, dx, _, rfl, h1, ?_, h⟩
  rw [Bool.or_eq_false_iff, Bool.or_eq_false_iff] at hm
  obtain ⟨⟨m1, m2⟩, m3⟩ := hm
  unfold flds
  simp only [List.lookup, m1, m2, m3]
theorem g_rows {A : V → Prop} (c : BookC K) (B : BookAt K H b dx d l ds kvs pvs s) (h : A (.ref d)) : ∃ a C dx fs v, V.ref b = .ref a ∧ H a = some (.ins C dx fs) ∧ Cls K C ∧ NoAttr K C "rows" ∧ fs.lookup ("rows" : Str) = some v ∧ A v :=
  ⟨b, _, dx, _, _, rfl, B.ins, c.cl, c.rows, by rfl, h⟩
theorem g_fol {A : V → Prop} (c : BookC K) (B : BookAt K H b dx d l ds kvs pvs s) (h : A (.int s.fol)) : ∃ a C dx fs v, V.ref b = .ref a ∧ H a = some (.ins C dx fs) ∧ Cls K C ∧ NoAttr K C "following" ∧ fs.lookup ("following" : Str) = some v ∧ A v :=
  ⟨b, _, dx, _, _, rfl, B.ins, c.cl, c.fol, by rfl, h⟩
theorem g_past {A : V → Prop} (c : BookC K) (B : BookAt K H b dx d l ds kvs pvs s) (h : A (.ref l)) : ∃ a C dx fs v, V.ref b = .ref a ∧ H a = some (.ins C dx fs) ∧ Cls K C ∧ NoAttr K C "past" ∧ fs.lookup ("past" : Str) = some v ∧ A v :=
  ⟨b, _, dx, _, _, rfl, B.ins, c.cl, c.past, by rfl, h⟩
end
/-! ### while, by the number of turns -/
def whRun (c : TT) (tb : TS) (D : Ends) : Nat → L2.St → Hp → Prop
  | 0 => fun _ _ => False
  | n + 1 => fun σ H => c σ H fun bb H' => if bb = true then tb { D with nx := whRun c tb D n, ct := whRun c tb D n, bk := D.nx } σ H' else D.nx σ H'
theorem wh_go {c : TT} {tb : TS} {D : Ends} {σ : L2.St} {H : Hp} (n : Nat) (mono : ∀ {σ H} {P Q : Bool → Hp → Prop}, (∀ x H, P x H → Q x H) → c σ H P → c σ H Q) (h : whRun c tb D n σ H) : tWhile c tb D σ H := by
  refine ⟨fun m => whRun c tb D m, ⟨n, h⟩, fun m σ H w => ?_⟩
  cases m with
  | zero => exact w.elim
  | succ m =>
    refine mono (fun x H' q => ?_) w
    cases x with
    | true => exact iteT ⟨whRun c tb D m, fun σ' H' z => ⟨m, Nat.lt_succ_self m, z⟩, by rw [if_pos rfl] at q; exact q⟩
    | false => exact iteF (by rw [if_neg Bool.false_ne_true] at q; exact q)
end Cor

/-! ## PuB2 -/
namespace Cor
open PySem PySem.Spec PyProof.Rows L2
/-! ### tests that pass on what follows -/
def MonoE (te : TE) : Prop := ∀ σ H (P Q : VK), (∀ v H, P v H → Q v H) → te σ H P → te σ H Q
def MonoA (ta : TA) : Prop := ∀ σ H (P Q : List V → Hp → Prop), (∀ v H, P v H → Q v H) → ta σ H P → ta σ H Q
def MonoR (r : R2) : Prop := ∀ x y H (P Q : VK), (∀ v H, P v H → Q v H) → r x y H P → r x y H Q
theorem mono_var (i : Nat) : MonoE (tVar i) := fun σ H P Q k ⟨v, e, h⟩ => ⟨v, e, k _ _ h⟩
theorem mono_c (v : V) : MonoE (tC v) := fun σ H P Q k h => k _ _ h
theorem mono_op {r : R2} {ta tb : TE} (hr : MonoR r) (ha : MonoE ta) (hb : MonoE tb) : MonoE (tOp r ta tb) := fun σ H P Q k h =>
  ha σ H _ _ (fun x H1 q => hb σ H1 _ _ (fun y H2 q => hr x y H2 _ _ k q) q) h
theorem mono_notN : MonoR rNotN := fun x y H P Q k ⟨e, h⟩ => ⟨e, k _ _ h⟩
theorem mono_isN : MonoR rIsN := fun x y H P Q k ⟨e, h⟩ => ⟨e, k _ _ h⟩
theorem mono_I0 {f : Int → Int → V} : MonoR (rI0 f) := fun x y H P Q k ⟨i, j, e1, e2, h⟩ => ⟨i, j, e1, e2, k _ _ h⟩
theorem mono_ixL {K : PySem.W.Frag} : MonoR (rIxL K) := fun x y H P Q k ⟨p, xs, i, v, e1, e2, e3, e4, h⟩ => ⟨p, xs, i, v, e1, e2, e3, e4, k _ _ h⟩
theorem mono_nil : MonoA tNil := fun σ H P Q k h => k _ _ h
theorem mono_cons {te : TE} {ta : TA} (h1 : MonoE te) (h2 : MonoA ta) : MonoA (tCons te ta) := fun σ H P Q k h => h1 σ H _ _ (fun x H1 q => h2 σ H1 _ _ (fun xs H2 q => k _ _ q) q) h
theorem mono_len {K : PySem.W.Frag} {ta : TA} (h1 : MonoA ta) : MonoE (tCB (rLenL K) ta) := fun σ H P Q k h => h1 σ H _ _ (fun xs H1 ⟨p, ys, e1, e2, q⟩ => ⟨p, ys, e1, e2, k _ _ q⟩) h
theorem mono_test {te : TE} (h1 : MonoE te) {σ : L2.St} {H : Hp} {P Q : Bool → Hp → Prop} (k : ∀ x H, P x H → Q x H) (h : tTest te σ H P) : tTest te σ H Q := h1 σ H _ _ (fun v H1 ⟨b, e, q⟩ => ⟨b, e, k _ _ q⟩) h
/-! ### a new book -/
section
variable {K : PySem.W.Frag} {vs : List V} {H : Hp} {Q : VK} {E : XK}
def sp_Book___init__ (K : PySem.W.Frag) : Sp := fun vs H Q _ => ∃ b dx, vs = [.ref b] ∧ H b = some (.ins (He.ga K "Book") dx []) ∧
  ∀ H' fp, Book K H' b fp ⟨[], 0, []⟩ → (∀ a u, H a = some u → a ≠ b → H' a = some u) → (∀ a ∈ fp, a = b ∨ H a = none) → Q .non H'
/-- Book___init__: slots self -/
def t_Book___init__ (K : PySem.W.Frag) (E : XK) : TS :=
  tSeq (sFld K (tVar 0) tDNewK "rows") (tSeq (sFld K (tVar 0) (tC (.int 0)) "following") (sFld K (tVar 0) (tLst tNil) "past"))
abbrev n_Book___init__ : List Str := ["self"]

theorem len_Book___init__ (h : sp_Book___init__ K vs H Q E) : vs.length = (["self"] : List Str).length := by
  obtain ⟨_, _, rfl, _⟩ := h
  rfl
theorem pure_Book___init__ (K : PySem.W.Frag) (c : BookC K) (vs : List V) (H : Hp) (Q : VK) (E : XK) (h : sp_Book___init__ K vs H Q E) : t_Book___init__ K E { nx := fun _ H' => Q .non H', rt := Q } (start n_Book___init__ vs) H := by
  obtain ⟨b, dx, rfl, hb, q⟩ := h
  unfold t_Book___init__
  walk_at "go"
  intro d hd
  walk_at "go"
  have nbd : b ≠ d := ne_of_none hb hd
  refine ⟨b, _, dx, _, rfl, by rw [upd_ne nbd]; exact hb, c.cl, c.rows, by first | decide | exact Nat.lt_of_le_of_lt (length_putF _ _ _) (by decide) | exact Nat.lt_of_le_of_lt (length_putF _ _ _) (Nat.lt_of_le_of_lt (Nat.succ_le_succ (length_putF _ _ _)) (by decide)), ?_⟩
  walk_at "go"
  refine ⟨b, _, dx, _, rfl, upd_same, c.cl, c.fol, by first | decide | exact Nat.lt_of_le_of_lt (length_putF _ _ _) (by decide) | exact Nat.lt_of_le_of_lt (length_putF _ _ _) (Nat.lt_of_le_of_lt (Nat.succ_le_succ (length_putF _ _ _)) (by decide)), ?_⟩
  walk_at "go"
  intro l hl
  walk_at "go"
  have nbl : b ≠ l := ne_of_none upd_same hl
  have ndl : d ≠ l := ne_of_none (o := .dK []) (by rw [upd_ne (Ne.symm nbd), upd_ne (Ne.symm nbd)]; exact upd_same) hl
  refine ⟨b, _, dx, _, rfl, by rw [upd_ne nbl]; exact upd_same, c.cl, c.past, by first | decide | exact Nat.lt_of_le_of_lt (length_putF _ _ _) (by decide) | exact Nat.lt_of_le_of_lt (length_putF _ _ _) (Nat.lt_of_le_of_lt (Nat.succ_le_succ (length_putF _ _ _)) (by decide)), ?_⟩
  walk_at "go"
  have hl0 : H l = none := by
    rw [upd_ne (Ne.symm nbl), upd_ne (Ne.symm nbl), upd_ne (Ne.symm ndl)] at hl
    exact hl
  refine q _ [b, d, l] ⟨dx, d, l, [], [], [], rfl, ?_, ?_, .nil, ?_, True.intro, ?_⟩ (fun a u ha hne => ?_) (fun a ha => ?_)
  · rw [upd_same] <;> rfl
  · rw [upd_ne (Ne.symm nbd), upd_ne ndl, upd_ne (Ne.symm nbd), upd_ne (Ne.symm nbd)]
    exact upd_same
  · rw [upd_ne (Ne.symm nbl)]
    exact upd_same
  · exact List.nodup_cons.mpr ⟨by simp, List.nodup_nil⟩
  · rw [upd_ne hne, upd_ne (ne_of_none ha hl0), upd_ne hne, upd_ne hne, upd_ne (ne_of_none ha hd)]
    exact ha
  · simp only [List.mem_cons, List.mem_nil_iff, or_false] at ha
    rcases ha with rfl | rfl | rfl
    · exact .inl rfl
    · exact .inr hd
    · exact .inr hl0
/-! ### asked, number, over, dye -/
def sp_Book_asked (K : PySem.W.Frag) : Sp := fun vs H Q E => ∃ b fp s k, vs = [.ref b, .int k] ∧ Book K H b fp s ∧ (∀ w t, rget s.R k = some w → H t = some (.tup (rowV w)) → Q (.ref t) H) ∧ (rget s.R k = none → E (.ref (He.ga K "NoCord")) none H)
/-- Book_asked: slots self, cord -/
def t_Book_asked (K : PySem.W.Frag) (E : XK) : TS :=
  tSeq (tIfS (tB (tDNotIn (tVar 1) (tFld K (tVar 0) "rows"))) (tRaise E (He.ga K "NoCord")) tNext) (tRet (tDGet (tFld K (tVar 0) "rows") (tVar 1)))
abbrev n_Book_asked : List Str := ["self", "cord"]

theorem len_Book_asked (h : sp_Book_asked K vs H Q E) : vs.length = (["self", "cord"] : List Str).length := by
  obtain ⟨_, _, _, _, rfl, _⟩ := h
  rfl
theorem pure_Book_asked (K : PySem.W.Frag) (c : BookC K) (vs : List V) (H : Hp) (Q : VK) (E : XK) (h : sp_Book_asked K vs H Q E) : t_Book_asked K E { nx := fun _ H' => Q .non H', rt := Q } (start n_Book_asked vs) H := by
  obtain ⟨b, fp, s, k, rfl, ⟨dx, d, l, ds, kvs, pvs, rfl, B⟩, q, qe⟩ := h
  unfold t_Book_asked
  walk_at "go"
  refine g_rows c B ?_
  refine ⟨d, _, rfl, DGet.k (k := Sum.inl k) B.dic, ?_⟩
  walk_at "go"
  cases e : rget s.R k with
  | none =>
    rw [(B.rows.get k).1 e]
    refine iteT ?_
    walk_at "go"
    exact qe e
  | some w =>
    obtain ⟨t, e1, ht⟩ := (B.rows.get k).2 w e
    rw [e1]
    refine iteF ?_
    walk_at "go"
    refine g_rows c B ?_
    walk_at "go"
    exact ⟨d, .ref t, rfl, by rw [← e1]; exact DGet.k (k := Sum.inl k) B.dic, q w t e ht⟩
def sp_Book_number (K : PySem.W.Frag) : Sp := fun vs H Q E => ∃ b fp s k, vs = [.ref b, .int k] ∧ Book K H b fp s ∧ (∀ w, rget s.R k = some w → Q (.int w.2.2) H) ∧ (rget s.R k = none → E (.ref (He.ga K "NoCord")) none H)
def sp_Book_over (K : PySem.W.Frag) : Sp := fun vs H Q E => ∃ b fp s k, vs = [.ref b, .int k] ∧ Book K H b fp s ∧ (∀ w, rget s.R k = some w → Q (oV w.1) H) ∧ (rget s.R k = none → E (.ref (He.ga K "NoCord")) none H)
def sp_Book_dye (K : PySem.W.Frag) : Sp := fun vs H Q E => ∃ b fp s k, vs = [.ref b, .int k] ∧ Book K H b fp s ∧ (∀ w, rget s.R k = some w → Q (.str w.2.1) H) ∧ (rget s.R k = none → E (.ref (He.ga K "NoCord")) none H)
/-- Book_number: slots self, cord -/
def t_Book_number (K : PySem.W.Frag) (E : XK) : TS :=
  tRet (tOp (rIxT K) (tMeth (He.ga K "Book") "asked" (sp_Book_asked K) [] E (tVar 0) (tCons (tVar 1) tNil)) (tC (.int 2)))
abbrev n_Book_number : List Str := ["self", "cord"]

/-- Book_over: slots self, cord -/
def t_Book_over (K : PySem.W.Frag) (E : XK) : TS :=
  tRet (tOp (rIxT K) (tMeth (He.ga K "Book") "asked" (sp_Book_asked K) [] E (tVar 0) (tCons (tVar 1) tNil)) (tC (.int 0)))
abbrev n_Book_over : List Str := ["self", "cord"]

/-- Book_dye: slots self, cord -/
def t_Book_dye (K : PySem.W.Frag) (E : XK) : TS :=
  tRet (tOp (rIxT K) (tMeth (He.ga K "Book") "asked" (sp_Book_asked K) [] E (tVar 0) (tCons (tVar 1) tNil)) (tC (.int 1)))
abbrev n_Book_dye : List Str := ["self", "cord"]

theorem len_Book_number (h : sp_Book_number K vs H Q E) : vs.length = (["self", "cord"] : List Str).length := by
  obtain ⟨_, _, _, _, rfl, _⟩ := h
  rfl
theorem len_Book_over (h : sp_Book_over K vs H Q E) : vs.length = (["self", "cord"] : List Str).length := by
  obtain ⟨_, _, _, _, rfl, _⟩ := h
  rfl
theorem len_Book_dye (h : sp_Book_dye K vs H Q E) : vs.length = (["self", "cord"] : List Str).length := by
  obtain ⟨_, _, _, _, rfl, _⟩ := h
  rfl
theorem row_at {H : Hp} {t : Addr} {w : RwD Str} (h : H t = some (.tup (rowV w))) : SqT K H t (rowV w) := SqT.of h
theorem pure_Book_number (K : PySem.W.Frag) (vs : List V) (H : Hp) (Q : VK) (E : XK) (h : sp_Book_number K vs H Q E) : t_Book_number K E { nx := fun _ H' => Q .non H', rt := Q } (start n_Book_number vs) H := by
  obtain ⟨b, fp, s, k, rfl, B, q, qe⟩ := h
  unfold t_Book_number
  walk_at "go"
  refine B.meth ?_
  walk_at "go"
  refine ⟨b, fp, s, k, rfl, B, fun w t e ht => ?_, fun e => qe e⟩
  walk_at "go"
  exact g_ixT (row_at ht) rfl (q w e)
theorem pure_Book_over (K : PySem.W.Frag) (vs : List V) (H : Hp) (Q : VK) (E : XK) (h : sp_Book_over K vs H Q E) : t_Book_over K E { nx := fun _ H' => Q .non H', rt := Q } (start n_Book_over vs) H := by
  obtain ⟨b, fp, s, k, rfl, B, q, qe⟩ := h
  unfold t_Book_over
  walk_at "go"
  refine B.meth ?_
  walk_at "go"
  refine ⟨b, fp, s, k, rfl, B, fun w t e ht => ?_, fun e => qe e⟩
  walk_at "go"
  exact g_ixT (row_at ht) rfl (q w e)
theorem pure_Book_dye (K : PySem.W.Frag) (vs : List V) (H : Hp) (Q : VK) (E : XK) (h : sp_Book_dye K vs H Q E) : t_Book_dye K E { nx := fun _ H' => Q .non H', rt := Q } (start n_Book_dye vs) H := by
  obtain ⟨b, fp, s, k, rfl, B, q, qe⟩ := h
  unfold t_Book_dye
  walk_at "go"
  refine B.meth ?_
  walk_at "go"
  refine ⟨b, fp, s, k, rfl, B, fun w t e ht => ?_, fun e => qe e⟩
  walk_at "go"
  exact g_ixT (row_at ht) rfl (q w e)
/-! ### cords, hangers, is_end -/
theorem asc_perm {l : List Int} : ∀ {m : List Int}, Asc l → m.Perm l → m.Pairwise (· ≤ ·) → m = l := by
  intro m h p hm
  exact List.Perm.eq_of_pairwise (fun a b _ _ h1 h2 => Int.le_antisymm h1 h2) hm (h.imp fun h => by omega) p
def sp_Book_cords (K : PySem.W.Frag) : Sp := fun vs H Q _ => ∃ b fp s, vs = [.ref b] ∧ Book K H b fp s ∧ Asc (keysR s.R) ∧ ∀ p H', H p = none → Same H H' → H' p = some (.lst ((keysR s.R).map V.int)) → Q (.ref p) H'
/-- Book_cords: slots self -/
def t_Book_cords (K : PySem.W.Frag) (E : XK) : TS :=
  tRet (tCB (rSortedI K) (tCons (tCB rListD (tCons (tFld K (tVar 0) "rows") tNil)) tNil))
abbrev n_Book_cords : List Str := ["self"]

theorem len_Book_cords (h : sp_Book_cords K vs H Q E) : vs.length = (["self"] : List Str).length := by
  obtain ⟨_, _, _, rfl, _⟩ := h
  rfl
theorem pure_Book_cords (K : PySem.W.Frag) (c : BookC K) (vs : List V) (H : Hp) (Q : VK) (E : XK) (h : sp_Book_cords K vs H Q E) : t_Book_cords K E { nx := fun _ H' => Q .non H', rt := Q } (start n_Book_cords vs) H := by
  obtain ⟨b, fp, s, rfl, ⟨dx, d, l, ds, kvs, pvs, rfl, B⟩, ha, q⟩ := h
  unfold t_Book_cords
  walk_at "go"
  refine g_rows c B ?_
  walk_at "go"
  refine ⟨d, kvs, rfl, B.dic, fun p hp => ?_⟩
  walk_at "go"
  refine ⟨p, keysR s.R, rfl, SqL.of (by rw [upd_same, B.rows.keys]), fun ns' r pm rising hr => ?_⟩
  have e := asc_perm ha pm rising
  subst e
  have s1 : Same H (upd H p (.lst (kvs.map fun kv => kV kv.1))) := same_new hp
  exact q r _ (s1.free hr) (same_add s1 hr) upd_same
def sp_Book_hangers (K : PySem.W.Frag) : Sp := fun vs H Q E => ∃ b fp s o, vs = [.ref b, oV o] ∧ Book K H b fp s ∧ Asc (keysR s.R) ∧ s.R.length ≤ 1000 ∧
  (∀ p H', (∀ k, o = some k → ∃ w, rget s.R k = some w) → H p = none → Same H H' → H' p = some (.lst ((hangR s.R o).map V.int)) → Q (.ref p) H') ∧ ∀ k, o = some k → rget s.R k = none → E (.ref (He.ga K "NoCord")) none H
/-- Book_hangers: slots self, cord, name -/
def t_Book_hangers (K : PySem.W.Frag) (E : XK) : TS :=
  tSeq (tIfS (tTest (tOp rNotN (tVar 1) (tC .non))) (tDrop (tMeth (He.ga K "Book") "asked" (sp_Book_asked K) [] E (tVar 0) (tCons (tVar 1) tNil))) tNext) (tRet (tLc (iList K (tMeth (He.ga K "Book") "cords" (sp_Book_cords K) [] E0 (tVar 0) tNil)) (gName 2) (tTest (tOp rEq (tOp (rIxT K) (tDGet (tFld K (tVar 0) "rows") (tVar 2)) (tC (.int 0))) (tVar 1))) (tVar 2) [2]))
abbrev n_Book_hangers : List Str := ["self", "cord", "name"]

theorem len_Book_hangers (h : sp_Book_hangers K vs H Q E) : vs.length = (["self", "cord"] : List Str).length := by
  obtain ⟨_, _, _, _, rfl, _⟩ := h
  rfl
theorem oV_inj {a b : Option Int} : oV a = oV b ↔ a = b := by
  constructor
  · intro h
    cases a with
    | none => cases b with
      | none => rfl
      | some j => cases h
    | some i => cases b with
      | none => cases h
      | some j => rw [V.int.inj h]
  · rintro rfl; rfl
theorem scal_oV (a b : Option Int) : scal (oV a) (oV b) = true := by
  cases a <;> cases b <;> rfl
theorem g_eqO {a b : Option Int} {H : Hp} {Q : VK} (h : Q (.bl (decide (a = b))) H) : rEq (oV a) (oV b) H Q := ⟨scal_oV a b, by
  have e : decide (oV a = oV b) = decide (a = b) := by
    by_cases q : a = b
    · subst q; simp
    · rw [decide_eq_false q, decide_eq_false (fun z => q (oV_inj.mp z))]
  rw [e]; exact h⟩
theorem pure_Book_hangers (K : PySem.W.Frag) (c : BookC K) (vs : List V) (H : Hp) (Q : VK) (E : XK) (h : sp_Book_hangers K vs H Q E) : t_Book_hangers K E { nx := fun _ H' => Q .non H', rt := Q } (start n_Book_hangers vs) H := by
  obtain ⟨b, fp, s, o, rfl, B, ha, hlen, q, qe⟩ := h
  have fin : (∀ k, o = some k → ∃ w, rget s.R k = some w) → tRet (tLc (iList K (tMeth (He.ga K "Book") "cords" (sp_Book_cords K) [] E0 (tVar 0) tNil)) (gName 2) (tTest (tOp rEq (tOp (rIxT K) (tDGet (tFld K (tVar 0) "rows") (tVar 2)) (tC (.int 0))) (tVar 1))) (tVar 2) [2])
      { nx := fun _ H' => Q .non H', rt := Q } [some (.ref b), some (oV o), none] H := by
    intro ho
    walk_at "go"
    refine g_lcL ?_
    walk_at "go"
    refine B.meth ?_
    walk_at "go"
    refine ⟨b, fp, s, rfl, B, ha, fun p H1 hp s1 h1 => ?_⟩
    refine lc_go (xs := (keysR s.R).map V.int) (SqL.of h1) fun L hL => ?_
    have npL : p ≠ L := ne_of_none h1 hL
    have run : ∀ (r : List Int) (acc : List Int) (Qf : VK) (H2 : Hp), (∀ k ∈ r, k ∈ keysR s.R) → acc.length + r.length ≤ 1000 → Same H1 H2 → H2 L = some (.lst (acc.map V.int)) →
        (∀ H3, Same H1 H3 → H3 L = some (.lst ((acc ++ r.filter fun k => decide ((rget s.R k).map (·.1) = some o)).map V.int)) → Qf (.ref L) H3) →
        lcRun K p ((keysR s.R).map V.int) (gName 2) (tTest (tOp rEq (tOp (rIxT K) (tDGet (tFld K (tVar 0) "rows") (tVar 2)) (tC (.int 0))) (tVar 1))) (tVar 2) [2] [some (.ref b), some (oV o), none] L Qf (r.map V.int) H2 := by
      intro r
      induction r with
      | nil =>
        intro acc Qf H2 _ _ s2 h2 hq
        refine ⟨SqL.of (s2 _ _ h1), ?_⟩
        exact hq H2 s2 (by rw [List.filter_nil, List.append_nil]; exact h2)
      | cons k r ih =>
        intro acc Qf H2 hk hn s2 h2 hq
        refine ⟨SqL.of (s2 _ _ h1), ?_⟩
        obtain ⟨w, ew⟩ := key_rget (hk k List.mem_cons_self)
        obtain ⟨dx, d, l, ds, kvs, pvs, rfl, B2⟩ := (B.same s1).same s2
        obtain ⟨t, e1, ht⟩ := (B2.rows.get k).2 w ew
        walk_at "go"
        refine g_rows c B2 ?_
        walk_at "go"
        refine ⟨d, .ref t, rfl, by rw [← e1]; exact DGet.k (k := Sum.inl k) B2.dic, ?_⟩
        walk_at "go"
        refine g_ixT (row_at ht) (show atI (rowV w) 0 = some (oV w.1) from rfl) ?_
        walk_at "go"
        refine g_eqO ?_
        walk_at "go"
        have ef : (k :: r).filter (fun k => decide ((rget s.R k).map (·.1) = some o)) = if w.1 = o then k :: r.filter (fun k => decide ((rget s.R k).map (·.1) = some o)) else r.filter (fun k => decide ((rget s.R k).map (·.1) = some o)) := by
          rw [List.filter_cons, ew]
          by_cases z : w.1 = o
          · rw [if_pos z, Option.map_some, z, decide_eq_true rfl, if_pos rfl]
          · rw [if_neg z, Option.map_some, decide_eq_false (fun y => z (Option.some.inj y)), if_neg Bool.false_ne_true]
        have hk' : ∀ k ∈ r, k ∈ keysR s.R := fun k hm => hk k (List.mem_cons_of_mem _ hm)
        rw [List.length_cons] at hn
        refine g_iteD (fun z => ?_) (fun z => ?_)
        · walk_at "go"
          refine ⟨acc.map V.int, h2, sz_lt (by rw [List.length_map]; omega), ?_⟩
          refine ih (acc ++ [k]) Qf _ hk' (by rw [List.length_append, List.length_singleton]; omega) (same_mut s2 hL) (by rw [upd_same, List.map_append] <;> rfl) fun H3 s3 h3 => hq H3 s3 ?_
          rw [ef, if_pos z, h3, List.append_assoc] <;> rfl
        · refine ih acc Qf _ hk' (by omega) s2 h2 fun H3 s3 h3 => hq H3 s3 ?_
          rw [ef, if_neg z]
          exact h3
    refine run (keysR s.R) [] _ _ (fun k hk => hk) (by rw [keys_len]; simpa using hlen) (same_new hL) upd_same fun H3 s3 h3 => ?_
    refine q L H3 ho (s1.free hL) (s1.trans s3) ?_
    rw [h3, List.nil_append]
    congr 3
    unfold hangR keysR
    have nd := asc_nodup ha
    have gen : ∀ r : Rows, (∀ p ∈ r, rget s.R p.1 = some p.2) → (r.map (·.1)).filter (fun k => decide ((rget s.R k).map (·.1) = some o)) = (r.filter fun p => decide (p.2.1 = o)).map (·.1) := by
      intro r
      induction r with
      | nil => intro _; rfl
      | cons p r ih =>
        intro hr
        rw [List.map_cons, List.filter_cons, List.filter_cons, hr p List.mem_cons_self, ih fun x hx => hr x (List.mem_cons_of_mem _ hx)]
        by_cases z : p.2.1 = o
        · rw [Option.map_some, z, decide_eq_true rfl, if_pos rfl, decide_eq_true rfl, if_pos rfl, List.map_cons]
        · rw [Option.map_some, decide_eq_false (fun y => z (Option.some.inj y)), if_neg Bool.false_ne_true, decide_eq_false z, if_neg Bool.false_ne_true]
    exact gen s.R fun p hp => mem_rget nd hp
  unfold t_Book_hangers
  walk_at "go"
  cases o with
  | none =>
    walk_at "go"
    exact fin fun k z => by cases z
  | some k =>
    walk_at "go"
    refine B.meth ?_
    walk_at "go"
    refine ⟨b, fp, s, k, rfl, B, fun w t e ht => ?_, fun e => qe k rfl e⟩
    exact fin fun k' z => by cases z; exact ⟨w, e⟩
def sp_Book_is_end (K : PySem.W.Frag) : Sp := fun vs H Q _ => ∃ b fp s k w, vs = [.ref b, .int k] ∧ Book K H b fp s ∧ Asc (keysR s.R) ∧ s.R.length ≤ 1000 ∧ rget s.R k = some w ∧ ∀ H', Same H H' → Q (.bl (decide (hangR s.R (some k) = []))) H'
/-- Book_is_end: slots self, cord -/
def t_Book_is_end (K : PySem.W.Frag) (E : XK) : TS :=
  tRet (tOp rEq (tCB (rLenL K) (tCons (tMeth (He.ga K "Book") "hangers" (sp_Book_hangers K) [] E0 (tVar 0) (tCons (tVar 1) tNil)) tNil)) (tC (.int 0)))
abbrev n_Book_is_end : List Str := ["self", "cord"]

theorem len_Book_is_end (h : sp_Book_is_end K vs H Q E) : vs.length = (["self", "cord"] : List Str).length := by
  obtain ⟨_, _, _, _, _, rfl, _⟩ := h
  rfl
theorem pure_Book_is_end (K : PySem.W.Frag) (vs : List V) (H : Hp) (Q : VK) (E : XK) (h : sp_Book_is_end K vs H Q E) : t_Book_is_end K E { nx := fun _ H' => Q .non H', rt := Q } (start n_Book_is_end vs) H := by
  obtain ⟨b, fp, s, k, w, rfl, B, ha, hlen, ew, q⟩ := h
  unfold t_Book_is_end
  walk_at "go"
  refine B.meth ?_
  walk_at "go"
  refine ⟨b, fp, s, some k, rfl, B, ha, hlen, fun p H1 _ hp s1 h1 => ?_, fun k' z e => by cases z; rw [ew] at e; cases e⟩
  walk_at "go"
  refine g_lenL (SqL.of h1) ?_
  walk_at "go"
  have e : decide ((((hangR s.R (some k)).map V.int).length : Int) = 0) = decide (hangR s.R (some k) = []) := by
    rw [List.length_map]
    cases hangR s.R (some k) with
    | nil => rfl
    | cons x r => rw [decide_eq_false (by rw [List.length_cons]; omega), decide_eq_false (by simp)]
  rw [e]
  exact q _ s1
end
end Cor

/-! ## PuB3 -/
namespace Cor
open PySem PySem.Spec PyProof.Rows L2
section
variable {K : PySem.W.Frag} {vs : List V} {H H' : Hp} {Q : VK} {E : XK} {b dx d l : Addr} {ds fp : List Addr} {kvs : List (Key × V)} {pvs : List V} {s : Bk} {R : Rows}
theorem Keeps.seq {p : Addr} {xs : List V} (k : Keeps fp H H') (h : SqL K H p xs) (hp : p ∉ fp) : SqL K H' p xs := by
  rcases h with (h | ⟨o, h⟩) | h
  · exact .inl (.inl (k _ _ h hp))
  · exact .inl (.inr ⟨o, k _ _ h hp⟩)
  · exact .inr h
/-! ### line -/
theorem g_isNO {o : Option Int} (h : Q (.bl (decide (o ≠ none))) H) : rNotN (oV o) .non H Q := by
  cases o with
  | none => exact g_notN0 h
  | some i =>
    refine g_notN1 ?_
    rw [decide_eq_true (show (some i : Option Int) ≠ none by simp)] at h
    exact h
def sp_Book_line (K : PySem.W.Frag) : Sp := fun vs H Q _ => ∃ b fp s o L, vs = [.ref b, oV o] ∧ Book K H b fp s ∧ Line s.R o L ∧ s.R.length ≤ 1000 ∧ ∀ p H', H p = none → Same H H' → H' p = some (.lst (L.map V.int)) → Q (.ref p) H'
/-- Book_line: slots self, cord, found -/
def t_Book_line (K : PySem.W.Frag) (E : XK) : TS :=
  tSeq (tAsg (tLst tNil) (gName 2)) (tSeq (tWhile (tTest (tOp rNotN (tVar 1) (tC .non))) (tSeq (tDrop (tBM K "list" rAppend (tVar 2) (tCons (tVar 1) tNil))) (tAsg (tOp (rIxT K) (tDGet (tFld K (tVar 0) "rows") (tVar 1)) (tC (.int 0))) (gName 1)))) (tRet (tVar 2)))
abbrev n_Book_line : List Str := ["self", "cord", "found"]

theorem len_Book_line (h : sp_Book_line K vs H Q E) : vs.length = (["self", "cord"] : List Str).length := by
  obtain ⟨_, _, _, _, _, rfl, _⟩ := h
  rfl
theorem pure_Book_line (K : PySem.W.Frag) (c : BookC K) (vs : List V) (H : Hp) (Q : VK) (E : XK) (h : sp_Book_line K vs H Q E) : t_Book_line K E { nx := fun _ H' => Q .non H', rt := Q } (start n_Book_line vs) H := by
  obtain ⟨b, fp, s, o, L, rfl, B, hL, hlen, q⟩ := h
  unfold t_Book_line
  walk_at "go"
  intro p hp
  walk_at "go"
  refine wh_go (L.length + 1) (fun k h => mono_test (mono_op mono_notN (mono_var _) (mono_c _)) k h) ?_
  have run : ∀ {o : Option Int} {L : List Int}, Line s.R o L → ∀ (acc : List Int) (H1 : Hp), acc.length + L.length ≤ 1000 → Same H H1 → H1 p = some (.lst (acc.map V.int)) →
      (∀ H2, Same H H2 → H2 p = some (.lst ((acc ++ L).map V.int)) → Q (.ref p) H2) →
      whRun (tTest (tOp rNotN (tVar 1) (tC .non))) (tSeq (tDrop (tBM K "list" rAppend (tVar 2) (tCons (tVar 1) tNil))) (tAsg (tOp (rIxT K) (tDGet (tFld K (tVar 0) "rows") (tVar 1)) (tC (.int 0))) (gName 1)))
        { nx := tRet (tVar 2) { nx := fun _ H' => Q .non H', rt := Q }, rt := Q } (L.length + 1) [some (.ref b), some (oV o), some (.ref p)] H1 := by
    intro o L hL
    induction hL with
    | nil =>
      intro acc H1 hn s1 h1 hq
      show tTest _ _ _ _
      walk_at "go"
      refine hq H1 s1 ?_
      rw [List.append_nil]
      exact h1
    | @cons x w L ew hl ih =>
      intro acc H1 hn s1 h1 hq
      show tTest _ _ _ _
      walk_at "go"
      refine ⟨ty_list (SqL.of h1), ?_⟩
      walk_at "go"
      rw [List.length_cons] at hn
      refine g_append h1 (sz_lt (by rw [List.length_map]; omega)) ?_
      walk_at "go"
      have s2 : Same H (upd H1 p (.lst (acc.map V.int ++ [V.int x]))) := same_mut s1 hp
      obtain ⟨dx, d, l, ds, kvs, pvs, rfl, B2⟩ := B.same s2
      obtain ⟨t, e1, ht⟩ := (B2.rows.get x).2 w ew
      refine g_rows c B2 ?_
      walk_at "go"
      refine ⟨d, .ref t, rfl, by rw [← e1]; exact DGet.k (k := Sum.inl x) B2.dic, ?_⟩
      walk_at "go"
      refine g_ixT (row_at ht) (show atI (rowV w) 0 = some (oV w.1) from rfl) ?_
      walk_at "go"
      refine ih (acc ++ [x]) _ (by rw [List.length_append, List.length_singleton]; omega) s2 (by rw [upd_same, List.map_append] <;> rfl) fun H3 s3 h3 => hq H3 s3 ?_
      rw [h3, List.append_assoc] <;> rfl
  exact run hL [] _ (by have := hL.len; simp; omega) (same_new hp) upd_same fun H2 s2 h2 => q p H2 hp s2 h2
/-! ### beneath -/
def sp_Book_beneath (K : PySem.W.Frag) : Sp := fun vs H Q _ => ∃ b fp s k, vs = [.ref b, .int k] ∧ Book K H b fp s ∧ Wf s.R ∧ s.R.length ≤ 1000 ∧ k ∈ keysR s.R ∧
  ∀ (L : List Int) p H', L.Nodup → (∀ y, y ∈ L ↔ Under s.R k y) → H p = none → Same H H' → H' p = some (.lst (L.map V.int)) → Q (.ref p) H'
/-- Book_beneath: slots self, cord, found, place -/
def t_Book_beneath (K : PySem.W.Frag) (E : XK) : TS :=
  tSeq (tAsg (tLst (tCons (tVar 1) tNil)) (gName 2)) (tSeq (tAsg (tC (.int 0)) (gName 3)) (tSeq (tWhile (tTest (tOp rLtI (tVar 3) (tCB (rLenL K) (tCons (tVar 2) tNil)))) (tSeq (tDrop (tBM K "list" rExtend (tVar 2) (tCons (tMeth (He.ga K "Book") "hangers" (sp_Book_hangers K) [] E0 (tVar 0) (tCons (tOp (rIxL K) (tVar 2) (tVar 3)) tNil)) tNil))) (tAsg (tOp rAddI (tVar 3) (tC (.int 1))) (gName 3)))) (tRet (tVar 2))))
abbrev n_Book_beneath : List Str := ["self", "cord", "found", "place"]

theorem len_Book_beneath (h : sp_Book_beneath K vs H Q E) : vs.length = (["self", "cord"] : List Str).length := by
  obtain ⟨_, _, _, _, rfl, _⟩ := h
  rfl
theorem g_extend {l m : Addr} {xs zs : List V} (h1 : H l = some (.lst xs)) (h2 : H m = some (.lst zs)) (h3 : xs.length + zs.length ≤ 100000) (h : Q .non (upd H l (.lst (xs ++ zs)))) : rExtend (.ref l) [.ref m] H Q :=
  ⟨l, m, xs, zs, rfl, rfl, h1, h2, sz_of h3, h⟩
theorem pure_Book_beneath (K : PySem.W.Frag) (vs : List V) (H : Hp) (Q : VK) (E : XK) (h : sp_Book_beneath K vs H Q E) : t_Book_beneath K E { nx := fun _ H' => Q .non H', rt := Q } (start n_Book_beneath vs) H := by
  obtain ⟨b, fp, s, k, rfl, B, hw, hlen, hk, q⟩ := h
  unfold t_Book_beneath
  walk_at "go"
  intro p hp
  walk_at "go"
  refine wh_go (s.R.length + 1) (fun k h => mono_test (mono_op mono_I0 (mono_var _) (mono_len (mono_cons (mono_var _) mono_nil))) k h) ?_
  have run : ∀ (n : Nat) (dn td : List Int) (H1 : Hp), BInv s.R k dn td → s.R.length ≤ dn.length + n → Same H H1 → H1 p = some (.lst ((dn ++ td).map V.int)) →
      whRun (tTest (tOp rLtI (tVar 3) (tCB (rLenL K) (tCons (tVar 2) tNil)))) (tSeq (tDrop (tBM K "list" rExtend (tVar 2) (tCons (tMeth (He.ga K "Book") "hangers" (sp_Book_hangers K) [] E0 (tVar 0) (tCons (tOp (rIxL K) (tVar 2) (tVar 3)) tNil)) tNil))) (tAsg (tOp rAddI (tVar 3) (tC (.int 1))) (gName 3)))
        { nx := tRet (tVar 2) { nx := fun _ H' => Q .non H', rt := Q }, rt := Q } (n + 1) [some (.ref b), some (.int k), some (.ref p), some (.int dn.length)] H1 := by
    intro n
    induction n with
    | zero =>
      intro dn td H1 bi hn s1 h1
      have hl := bi.len
      have e0 : td = [] := List.length_eq_zero_iff.mp (by omega)
      subst e0
      show tTest _ _ _ _
      walk_at "go"
      refine g_lenL (SqL.of h1) ?_
      walk_at "go"
      rw [decide_eq_false (by rw [List.length_map, List.append_nil]; omega)]
      walk_at "go"
      obtain ⟨nd, hm⟩ := bi.fin hw
      rw [List.append_nil] at h1
      exact q dn p H1 nd hm hp s1 h1
    | succ n ih =>
      intro dn td H1 bi hn s1 h1
      have hl := bi.len
      show tTest _ _ _ _
      walk_at "go"
      refine g_lenL (SqL.of h1) ?_
      walk_at "go"
      cases td with
      | nil =>
        rw [decide_eq_false (by rw [List.length_map, List.append_nil]; omega)]
        walk_at "go"
        obtain ⟨nd, hm⟩ := bi.fin hw
        rw [List.append_nil] at h1
        exact q dn p H1 nd hm hp s1 h1
      | cons x r =>
        rw [decide_eq_true (by rw [List.length_map, List.length_append, List.length_cons]; omega)]
        walk_at "go"
        refine ⟨ty_list (SqL.of h1), ?_⟩
        walk_at "go"
        refine (B.same s1).meth ?_
        walk_at "go"
        have ex : atI ((dn ++ x :: r).map V.int) (dn.length : Int) = some (.int x) := by
          refine atI_nat ?_
          rw [List.getElem?_map, List.getElem?_append_right (Nat.le_refl _), Nat.sub_self] <;> rfl
        refine g_ixL (SqL.of h1) ex ?_
        walk_at "go"
        have hx : x ∈ dn ++ x :: r := by simp
        have hxk := (bi.un x hx).key
        refine ⟨b, fp, s, some x, rfl, B.same s1, hw.asc, hlen, fun p2 H2 _ hp2 s2 h2 => ?_, fun k' z e => ?_⟩
        · walk_at "go"
          have bi' := bi.step hw
          have hl' := bi'.len
          have h12 := s2 _ _ h1
          refine g_extend h12 h2 (by rw [List.length_map, List.length_map, List.length_append]; rw [List.length_append, List.length_append] at hl'; rw [List.length_cons] at hl ⊢; omega) ?_
          walk_at "go"
          have e1 : ((dn.length : Int) + 1) = (((dn ++ [x]).length : Nat) : Int) := by rw [List.length_append, List.length_singleton]; omega
          rw [e1]
          refine ih (dn ++ [x]) (r ++ hangR s.R (some x)) _ bi' (by rw [List.length_append, List.length_singleton]; omega) (same_mut (s1.trans s2) hp) ?_
          rw [upd_same, ← List.map_append]
          congr 3
          simp
        · cases z
          obtain ⟨w, ew⟩ := key_rget hxk
          rw [ew] at e; cases e
  exact run s.R.length [] [k] _ (BInv.start hw hk) (by simp) (same_new hp) upd_same
/-! ### kept -/
def sp_Book_kept (K : PySem.W.Frag) : Sp := fun vs H Q _ => ∃ b fp s, vs = [.ref b] ∧ Book K H b fp s ∧ s.past.length ≤ 1000 ∧ ∀ H' fp', Book K H' b fp' (keep s s.R) → Keeps fp H H' → Grows fp fp' H → (∀ a ∈ fp, a ∈ fp') → Q .non H'
/-- Book_kept: slots self -/
def t_Book_kept (K : PySem.W.Frag) (E : XK) : TS :=
  tDrop (tBM K "list" rAppend (tFld K (tVar 0) "past") (tCons (tTup (tCons (tFld K (tVar 0) "following") (tCons (tCB rDictD (tCons (tFld K (tVar 0) "rows") tNil)) tNil))) tNil))
abbrev n_Book_kept : List Str := ["self"]

theorem len_Book_kept (h : sp_Book_kept K vs H Q E) : vs.length = (["self"] : List Str).length := by
  obtain ⟨_, _, _, rfl, _⟩ := h
  rfl
theorem ne_kind {a c : Addr} {x y : HO} (h1 : H a = some x) (h2 : H c = some y) (hxy : x ≠ y) : a ≠ c := by
  rintro rfl
  rw [h1] at h2
  exact hxy (Option.some.inj h2)
theorem pure_Book_kept (K : PySem.W.Frag) (c : BookC K) (vs : List V) (H : Hp) (Q : VK) (E : XK) (h : sp_Book_kept K vs H Q E) : t_Book_kept K E { nx := fun _ H' => Q .non H', rt := Q } (start n_Book_kept vs) H := by
  obtain ⟨b, fp, s, rfl, ⟨dx, d, l, ds, kvs, pvs, rfl, B⟩, hlen, q⟩ := h
  unfold t_Book_kept
  walk_at "go"
  refine g_past c B ?_
  refine ⟨ty_list (SqL.of B.lst), ?_⟩
  walk_at "go"
  refine g_fol c B ?_
  walk_at "go"
  refine g_rows c B ?_
  walk_at "go"
  refine ⟨d, kvs, rfl, .inl B.dic, fun d2 hd2 => ?_⟩
  walk_at "go"
  intro t ht
  walk_at "go"
  have s1 : Same H (upd H d2 (.dK kvs)) := same_new hd2
  have s2 : Same H (upd (upd H d2 (.dK kvs)) t (.tup [V.int s.fol, V.ref d2])) := same_add s1 ht
  have n2t : d2 ≠ t := ne_of_none upd_same ht
  have nl2 : l ≠ d2 := ne_of_none B.lst hd2
  have ht0 : H t = none := s1.free ht
  have hl2 := s2 _ _ B.lst
  have nlt : l ≠ t := ne_of_none B.lst ht0
  refine g_append hl2 (sz_lt (by have := B.past.len; omega)) ?_
  obtain ⟨H2, e2⟩ : ∃ H2, H2 = upd (upd H d2 (.dK kvs)) t (.tup [V.int s.fol, V.ref d2]) := ⟨_, rfl⟩
  have ht2 : H2 t = some (.tup [V.int s.fol, V.ref d2]) := by rw [e2]; exact upd_same
  have hd2' : H2 d2 = some (.dK kvs) := by rw [e2, upd_ne n2t]; exact upd_same
  rw [← e2] at hl2 s2 ⊢
  have k1 : Keeps (b :: d :: l :: ds) H (upd H2 l (.lst (pvs ++ [.ref t]))) := fun a u ha hn => by
    rw [upd_ne (fun z => hn (by rw [z]; simp))]
    exact s2 a u ha
  have hneq : ∀ a u, H a = some u → a ≠ l → (upd H2 l (.lst (pvs ++ [.ref t]))) a = some u := fun a u ha hne => by
    rw [upd_ne hne]
    exact s2 a u ha
  have kt : ∀ a xs, H a = some (.tup xs) → (upd H2 l (.lst (pvs ++ [.ref t]))) a = some (.tup xs) := fun a xs ha => hneq a _ ha (ne_kind ha B.lst (by intro z; cases z))
  have kd : ∀ a kk, H a = some (.dK kk) → (upd H2 l (.lst (pvs ++ [.ref t]))) a = some (.dK kk) := fun a xs ha => hneq a _ ha (ne_kind ha B.lst (by intro z; cases z))
  refine q _ (b :: d :: l :: (ds ++ [d2])) ⟨dx, d, l, ds ++ [d2], kvs, pvs ++ [.ref t], rfl, ?_, ?_, ?_, ?_, ?_, ?_⟩ k1 (fun a ha => ?_) (fun a ha => by rcases List.mem_cons.mp ha with h | ha; exact List.mem_cons.mpr (.inl h); rcases List.mem_cons.mp ha with h | ha; exact List.mem_cons_of_mem _ (List.mem_cons.mpr (.inl h)); rcases List.mem_cons.mp ha with h | ha; exact List.mem_cons_of_mem _ (List.mem_cons_of_mem _ (List.mem_cons.mpr (.inl h))); exact List.mem_cons_of_mem _ (List.mem_cons_of_mem _ (List.mem_cons_of_mem _ (List.mem_append_left _ ha))))
  · exact hneq _ _ B.ins (ne_kind B.ins B.lst (by intro z; cases z))
  · exact kd _ _ B.dic
  · exact B.rows.mono kt
  · exact upd_same
  · have p1 : PastAt (upd H2 l (.lst (pvs ++ [.ref t]))) pvs ds s.past := B.past.mono kt fun a ha u hu => by
      obtain ⟨kk, hk⟩ := B.past.dic a ha
      rw [hk] at hu
      cases hu
      exact kd a kk hk
    exact p1.snoc (p := (s.fol, s.R)) (t := t) (d := d2) (kvs := kvs) (by rw [upd_ne (Ne.symm nlt)]; exact ht2) (by rw [upd_ne (Ne.symm nl2)]; exact hd2') (B.rows.mono kt)
  · have nd := B.nd
    have hd2n : ∀ a ∈ d :: ds, a ≠ d2 := fun a ha => by
      rcases List.mem_cons.mp ha with rfl | ha
      · exact ne_of_none B.dic hd2
      · obtain ⟨kk, hk⟩ := B.past.dic a ha
        exact ne_of_none hk hd2
    rw [← List.cons_append]
    refine List.nodup_append.mpr ⟨nd, by simp, fun a ha z hz => ?_⟩
    rw [List.mem_singleton.mp hz]
    exact hd2n a ha
  · simp only [List.mem_cons, List.mem_append, List.mem_nil_iff, or_false] at ha
    rcases ha with rfl | rfl | rfl | ha | rfl
    · exact .inl (by simp)
    · exact .inl (by simp)
    · exact .inl (by simp)
    · exact .inl (by simp [ha])
    · exact .inr hd2
/-! ### a row stored -/
theorem BookAt.put (B : BookAt K H b dx d l ds kvs pvs s) (k : Int) {w : RwD Str} {t : Addr} (ht : H t = some (.tup (rowV w))) :
    BookAt K (upd H d (.dK (putK kvs (Sum.inl k) (.ref t)))) b dx d l ds (putK kvs (Sum.inl k) (.ref t)) pvs ⟨rput s.R k w, s.fol, s.past⟩ := by
  have kt : ∀ a xs, H a = some (.tup xs) → (upd H d (.dK (putK kvs (Sum.inl k) (.ref t)))) a = some (.tup xs) := fun a xs ha => by
    rw [upd_ne (ne_kind ha B.dic (by intro z; cases z))]
    exact ha
  refine ⟨?_, upd_same, ?_, ?_, ?_, B.nd⟩
  · rw [upd_ne (ne_kind B.ins B.dic (by intro z; cases z))]
    exact B.ins
  · exact (B.rows.mono kt).put k (kt _ _ ht)
  · rw [upd_ne (ne_kind B.lst B.dic (by intro z; cases z))]
    exact B.lst
  · refine B.past.mono kt fun a ha u hu => ?_
    have hne : a ≠ d := by
      rintro rfl
      exact (List.nodup_cons.mp B.nd).1 ha
    rw [upd_ne hne]
    exact hu
/-! ### grown -/
def sp_Book_grown (K : PySem.W.Frag) : Sp := fun vs H Q _ => ∃ b fp s p, ∃ L : List Int, ∃ a, vs = [.ref b, .ref p, .int a] ∧ Book K H b fp s ∧ SqL K H p (L.map V.int) ∧ p ∉ fp ∧ L.Nodup ∧ (∀ x ∈ L, x ∈ keysR s.R) ∧ (keysR s.R).Nodup ∧ s.R.length ≤ 1000 ∧
  ∀ H', Book K H' b fp ⟨growR s.R L a, s.fol, s.past⟩ → Keeps fp H H' → Q .non H'
/-- Book_grown: slots self, cords, amount, name, row -/
def t_Book_grown (K : PySem.W.Frag) (E : XK) : TS :=
  tFor (iList K (tVar 1)) (gName 3) (tSeq (tAsg (tDGet (tFld K (tVar 0) "rows") (tVar 3)) (gName 4)) (sDPut (tFld K (tVar 0) "rows") (tVar 3) (tTup (tCons (tOp (rIxT K) (tVar 4) (tC (.int 0))) (tCons (tOp (rIxT K) (tVar 4) (tC (.int 1))) (tCons (tOp rAddI (tOp (rIxT K) (tVar 4) (tC (.int 2))) (tVar 2)) tNil))))))
abbrev n_Book_grown : List Str := ["self", "cords", "amount", "name", "row"]

theorem len_Book_grown (h : sp_Book_grown K vs H Q E) : vs.length = (["self", "cords", "amount"] : List Str).length := by
  obtain ⟨_, _, _, _, _, _, rfl, _⟩ := h
  rfl
theorem pure_Book_grown (K : PySem.W.Frag) (c : BookC K) (vs : List V) (H : Hp) (Q : VK) (E : XK) (h : sp_Book_grown K vs H Q E) : t_Book_grown K E { nx := fun _ H' => Q .non H', rt := Q } (start n_Book_grown vs) H := by
  obtain ⟨b, fp, s, p, L, am, rfl, B, hS, hp, nd, hk, nk, hlen, q⟩ := h
  unfold t_Book_grown
  refine g_forL ?_
  walk_at "go"
  refine for_go (xs := L.map V.int) ?_
  have run : ∀ (r : List Int) (s : Bk) (H1 : Hp) (w3 w4 : Option V), Book K H1 b fp s → Keeps fp H H1 → r.Nodup → (∀ x ∈ r, x ∈ keysR s.R) → (keysR s.R).Nodup → s.R.length ≤ 1000 →
      (∀ H', Book K H' b fp ⟨growR s.R r am, s.fol, s.past⟩ → Keeps fp H H' → Q .non H') →
      forRun K p (L.map V.int) (gName 3) (tSeq (tAsg (tDGet (tFld K (tVar 0) "rows") (tVar 3)) (gName 4)) (sDPut (tFld K (tVar 0) "rows") (tVar 3) (tTup (tCons (tOp (rIxT K) (tVar 4) (tC (.int 0))) (tCons (tOp (rIxT K) (tVar 4) (tC (.int 1))) (tCons (tOp rAddI (tOp (rIxT K) (tVar 4) (tC (.int 2))) (tVar 2)) tNil))))))
        { nx := fun _ H' => Q .non H', rt := Q } (r.map V.int) [some (.ref b), some (.ref p), some (.int am), w3, w4] H1 := by
    intro r
    induction r with
    | nil =>
      intro s H1 w3 w4 B k1 nd hk nk hlen q
      refine ⟨k1.seq hS hp, ?_⟩
      refine q H1 ?_ k1
      rw [grow_nil]
      exact B
    | cons x r ih =>
      intro s H1 w3 w4 B k1 nd hk nk hlen q
      refine ⟨k1.seq hS hp, ?_⟩
      obtain ⟨w, ew⟩ := key_rget (hk x List.mem_cons_self)
      obtain ⟨dx, d, l, ds, kvs, pvs, rfl, B2⟩ := B
      obtain ⟨t, e1, ht⟩ := (B2.rows.get x).2 w ew
      walk_at "go"
      refine g_rows c B2 ?_
      walk_at "go"
      refine ⟨d, .ref t, rfl, by rw [← e1]; exact DGet.k (k := Sum.inl x) B2.dic, ?_⟩
      walk_at "go"
      refine g_ixT (row_at ht) (show atI (rowV w) 0 = some (oV w.1) from rfl) ?_
      walk_at "go"
      refine g_ixT (row_at ht) (show atI (rowV w) 1 = some (.str w.2.1) from rfl) ?_
      walk_at "go"
      refine g_ixT (row_at ht) (show atI (rowV w) 2 = some (.int w.2.2) from rfl) ?_
      walk_at "go"
      intro u hu
      have s2 : Same H1 (upd H1 u (.tup [oV w.1, .str w.2.1, .int (w.2.2 + am)])) := same_new hu
      have hB2 : Book K H1 b (b :: d :: l :: ds) s := ⟨dx, d, l, ds, kvs, pvs, rfl, B2⟩
      obtain ⟨H2, e2⟩ : ∃ H2, H2 = upd H1 u (.tup [oV w.1, .str w.2.1, .int (w.2.2 + am)]) := ⟨_, rfl⟩
      have hu2 : H2 u = some (.tup (rowV (addR w am))) := by rw [e2]; exact upd_same
      rw [← e2] at s2 ⊢
      have B3 : BookAt K H2 b dx d l ds kvs pvs s := by
        refine ⟨s2 _ _ B2.ins, s2 _ _ B2.dic, B2.rows.mono fun t xs => s2 _ _, s2 _ _ B2.lst, B2.past.mono (fun t xs => s2 _ _) fun a _ u => s2 _ _, B2.nd⟩
      walk_at "go"
      refine g_rows c B3 ?_
      walk_at "go"
      refine ⟨d, _, rfl, DPut.k (k := Sum.inl x) B3.dic (sz_lt (by rw [B3.rows.len]; omega)), ?_⟩
      have nd' := List.nodup_cons.mp nd
      have B4 := B3.put x hu2
      refine ih ⟨rput s.R x (addR w am), s.fol, s.past⟩ _ _ _ ⟨dx, d, l, ds, _, pvs, rfl, B4⟩ ?_ nd'.2 (fun y hy => ?_) ?_ ?_ (fun H' hB => ?_)
      · intro a z ha hn
        rw [upd_ne (fun q => hn (by rw [q]; simp))]
        exact s2 _ _ (k1 a z ha hn)
      · show y ∈ keysR (rput s.R x (addR w am))
        rw [keys_rput ew]
        exact hk y (List.mem_cons_of_mem _ hy)
      · show (keysR (rput s.R x (addR w am))).Nodup
        rw [keys_rput ew]
        exact nk
      · show (rput s.R x (addR w am)).length ≤ 1000
        rw [← keys_len, keys_rput ew, keys_len]
        exact hlen
      · refine q H' ?_
        rw [← grow_cons ew nk nd'.1]
        exact hB
  exact run L s H _ _ B (fun a u h _ => h) nd hk nk hlen q
end
end Cor

/-! ## PuB4 -/
namespace Cor
open PySem PySem.Spec PyProof.Rows L2
section
variable {K : PySem.W.Frag} {vs : List V} {H H' : Hp} {Q : VK} {E : XK} {b dx d l : Addr} {ds fp : List Addr} {kvs : List (Key × V)} {pvs : List V} {s : Bk} {R : Rows}
structure Small (s : Bk) : Prop where
  r : s.R.length ≤ 900
  p : s.past.length ≤ 900
theorem putF_fol (d l : Addr) (f f' : Int) : putF ("following" : Str) (.int f') (flds d l f) = flds d l f' := by
  show (if ("rows" : Str) = "following" then _ else _) = _
  rw [if_neg (by decide +kernel)]
  show _ :: (if ("following" : Str) = "following" then _ else _) = _
  rw [if_pos rfl] <;> rfl
theorem putF_rows (d d' l : Addr) (f : Int) : putF ("rows" : Str) (.ref d') (flds d l f) = flds d' l f := by
  show (if ("rows" : Str) = "rows" then _ else _) = _
  rw [if_pos rfl] <;> rfl
theorem BookAt.mono (B : BookAt K H b dx d l ds kvs pvs s) (e : Same H H') : BookAt K H' b dx d l ds kvs pvs s :=
  ⟨e _ _ B.ins, e _ _ B.dic, B.rows.mono fun t xs => e _ _, e _ _ B.lst, B.past.mono (fun t xs => e _ _) fun a _ u => e _ _, B.nd⟩
/-- the next name stored -/
theorem BookAt.setFol (B : BookAt K H b dx d l ds kvs pvs s) (f : Int) : BookAt K (upd H b (.ins (He.ga K "Book") dx (flds d l f))) b dx d l ds kvs pvs ⟨s.R, f, s.past⟩ := by
  have kn : ∀ a u, H a = some u → u ≠ .ins (He.ga K "Book") dx (flds d l s.fol) → (upd H b (.ins (He.ga K "Book") dx (flds d l f))) a = some u := fun a u ha hu => by
    rw [upd_ne (ne_kind ha B.ins hu)]
    exact ha
  have kt : ∀ a xs, H a = some (.tup xs) → (upd H b (.ins (He.ga K "Book") dx (flds d l f))) a = some (.tup xs) := fun a xs ha => kn _ _ ha (by intro z; cases z)
  refine ⟨upd_same, kn _ _ B.dic (by intro z; cases z), B.rows.mono kt, kn _ _ B.lst (by intro z; cases z), B.past.mono kt fun a ha u hu => ?_, B.nd⟩
  obtain ⟨kk, hk⟩ := B.past.dic a ha
  rw [hk] at hu
  cases hu
  exact kn _ _ hk (by intro z; cases z)
theorem g_setfol {f : Int} {A : Hp → Prop} (c : BookC K) (B : BookAt K H b dx d l ds kvs pvs s) (h : A (upd H b (.ins (He.ga K "Book") dx (flds d l f)))) :
    ∃ a C dx fs, V.ref b = .ref a ∧ H a = some (.ins C dx fs) ∧ Cls K C ∧ NoAttr K C "following" ∧ fs.length < 1000 ∧ A (upd H a (.ins C dx (putF ("following" : Str) (.int f) fs))) :=
  ⟨b, _, dx, _, rfl, B.ins, c.cl, c.fol, by show 3 < 1000; decide, by rw [putF_fol]; exact h⟩
theorem g_setrows {d' : Addr} {A : Hp → Prop} (c : BookC K) (B : BookAt K H b dx d l ds kvs pvs s) (h : A (upd H b (.ins (He.ga K "Book") dx (flds d' l s.fol)))) :
    ∃ a C dx fs, V.ref b = .ref a ∧ H a = some (.ins C dx fs) ∧ Cls K C ∧ NoAttr K C "rows" ∧ fs.length < 1000 ∧ A (upd H a (.ins C dx (putF ("rows" : Str) (.ref d') fs))) :=
  ⟨b, _, dx, _, rfl, B.ins, c.cl, c.rows, by show 3 < 1000; decide, by rw [putF_rows]; exact h⟩
theorem keeps_upd {a : Addr} {u : HO} (k : Keeps fp H H') (ha : a ∈ fp) : Keeps fp H (upd H' a u) := fun x z hx hn => by
  rw [upd_ne (fun q => hn (by rw [q]; exact ha))]
  exact k x z hx hn
theorem keeps_new {a : Addr} {u : HO} (k : Keeps fp H H') (ha : H' a = none) : Keeps fp H (upd H' a u) := fun x z hx hn => by
  have := k x z hx hn
  rw [upd_ne (ne_of_none this ha)]
  exact this
theorem hangB_some (s : Bk) (k : Int) (d : Str) : hangB s (some k) d = (match rget s.R k with
    | none => .error "NoCord"
    | some w => if hangR s.R (some k) = [] ∧ w.2.2 ≠ 0 then .error "Knotted" else .ok (s.fol, hangOk s (some k) d)) := by
  unfold hangB
  dsimp only
  cases rget s.R k <;> rfl
/-! ### hang -/
def sp_Book_hang (K : PySem.W.Frag) : Sp := fun vs H Q E => ∃ b fp s o dye, vs = [.ref b, oV o, .str dye] ∧ Book K H b fp s ∧ OkB s ∧ Small s ∧
  (∀ n s', hangB s o dye = .ok (n, s') → ∀ H' fp', Book K H' b fp' s' → Keeps fp H H' → Grows fp fp' H → Q (.int n) H') ∧
  ∀ x, hangB s o dye = .error x → ∀ H', Same H H' → E (.ref (He.ga K (Str.ofString x))) none H'
/-- Book_hang: slots self, over, dye, row, name -/
def t_Book_hang (K : PySem.W.Frag) (E : XK) : TS :=
  tSeq (tIfS (tTest (tOp rNotN (tVar 1) (tC .non))) (tSeq (tAsg (tMeth (He.ga K "Book") "asked" (sp_Book_asked K) [] E (tVar 0) (tCons (tVar 1) tNil)) (gName 3)) (tIfS (tAnd (tB (tMeth (He.ga K "Book") "is_end" (sp_Book_is_end K) [] E0 (tVar 0) (tCons (tVar 1) tNil))) (tTest (tOp rNe (tOp (rIxT K) (tVar 3) (tC (.int 2))) (tC (.int 0))))) (tRaise E (He.ga K "Knotted")) tNext)) tNext) (tSeq (tDrop (tMeth (He.ga K "Book") "kept" (sp_Book_kept K) [] E0 (tVar 0) tNil)) (tSeq (tAsg (tFld K (tVar 0) "following") (gName 4)) (tSeq (sDPut (tFld K (tVar 0) "rows") (tVar 4) (tTup (tCons (tVar 1) (tCons (tVar 2) (tCons (tC (.int 0)) tNil))))) (tSeq (sFld K (tVar 0) (tOp rAddI (tVar 4) (tC (.int 1))) "following") (tRet (tVar 4))))))
abbrev n_Book_hang : List Str := ["self", "over", "dye", "row", "name"]

theorem len_Book_hang (h : sp_Book_hang K vs H Q E) : vs.length = (["self", "over", "dye"] : List Str).length := by
  obtain ⟨_, _, _, _, _, rfl, _⟩ := h
  rfl
theorem pure_Book_hang (K : PySem.W.Frag) (c : BookC K) (vs : List V) (H : Hp) (Q : VK) (E : XK) (h : sp_Book_hang K vs H Q E) : t_Book_hang K E { nx := fun _ H' => Q .non H', rt := Q } (start n_Book_hang vs) H := by
  obtain ⟨b, fp, s, o, dye, rfl, B, ok, sm, q, qe⟩ := h
  have fin : hangB s o dye = .ok (s.fol, hangOk s o dye) → ∀ (H1 : Hp) (w3 : Option V), Same H H1 → tSeq (tDrop (tMeth (He.ga K "Book") "kept" (sp_Book_kept K) [] E0 (tVar 0) tNil)) (tSeq (tAsg (tFld K (tVar 0) "following") (gName 4)) (tSeq (sDPut (tFld K (tVar 0) "rows") (tVar 4) (tTup (tCons (tVar 1) (tCons (tVar 2) (tCons (tC (.int 0)) tNil))))) (tSeq (sFld K (tVar 0) (tOp rAddI (tVar 4) (tC (.int 1))) "following") (tRet (tVar 4)))))
      { nx := fun _ H' => Q .non H', rt := Q } [some (.ref b), some (oV o), some (.str dye), w3, none] H1 := by
    intro eh H1 w3 s1
    walk_at "go"
    refine (B.same s1).meth ?_
    walk_at "go"
    refine ⟨b, fp, s, rfl, B.same s1, by have := sm.p; omega, fun H2 fp2 B2 k2 g2 _ => ?_⟩
    obtain ⟨dx, d, l, ds, kvs, pvs, rfl, B2⟩ := B2
    walk_at "go"
    refine g_fol c B2 ?_
    walk_at "go"
    intro t ht
    have s3 : Same H2 (upd H2 t (.tup [oV o, .str dye, .int 0])) := same_new ht
    have B3 := B2.mono s3
    walk_at "go"
    refine g_rows c B3 ?_
    walk_at "go"
    refine ⟨d, _, rfl, DPut.k (k := Sum.inl s.fol) B3.dic (sz_lt (by rw [B3.rows.len]; have := sm.r; show s.R.length < 100000; omega)), ?_⟩
    have B4 := B3.put s.fol (w := (o, dye, 0)) (t := t) upd_same
    walk_at "go"
    refine g_setfol c B4 ?_
    have B5 := B4.setFol (s.fol + 1)
    walk_at "go"
    have e5 : rput (keep s s.R).R s.fol (o, dye, 0) = s.R ++ [(s.fol, (o, dye, 0))] := rput_new ok.now.new
    rw [e5] at B5
    refine q _ _ eh _ _ ⟨dx, d, l, ds, _, pvs, rfl, B5⟩ ?_ ?_
    · have k3 : Keeps fp H H2 := fun a u ha hn => k2 a u (s1 _ _ ha) hn
      intro a u ha hn
      have g : a ∉ b :: d :: l :: ds := g2.out (s1 _ _ ha) hn
      rw [upd_ne (fun z => g (by rw [z]; simp)), upd_ne (fun z => g (by rw [z]; simp)), upd_ne (ne_of_none (k3 a u ha hn) ht)]
      exact k3 a u ha hn
    · intro a ha
      rcases g2 a ha with z | z
      · exact .inl z
      · exact .inr (s1.free z)
  unfold t_Book_hang
  walk_at "go"
  cases o with
  | none =>
    walk_at "nx"
    exact fin rfl H none (Same.refl _)
  | some k =>
    walk_at "go"
    refine B.meth ?_
    walk_at "go"
    refine ⟨b, fp, s, k, rfl, B, fun w t ew ht => ?_, fun e => qe "NoCord" (by rw [hangB_some, e]) H (Same.refl _)⟩
    walk_at "go"
    refine B.meth ?_
    walk_at "go"
    refine ⟨b, fp, s, k, w, rfl, B, ok.now.wf.asc, by have := sm.r; omega, ew, fun H1 s1 => ?_⟩
    have eh : hangB s (some k) dye = if hangR s.R (some k) = [] ∧ w.2.2 ≠ 0 then .error "Knotted" else .ok (s.fol, hangOk s (some k) dye) := by
      rw [hangB_some, ew]
    walk_at "go"
    refine g_iteD (fun h0 => ?_) (fun h0 => ?_)
    · walk_at "go"
      refine g_ixT (row_at (s1 _ _ ht)) (show atI (rowV w) 2 = some (.int w.2.2) from rfl) ?_
      walk_at "go"
      refine g_iteN (fun h1 => ?_) (fun h1 => ?_)
      · walk_at "go"
        exact qe "Knotted" (by rw [eh, if_pos ⟨h0, h1⟩]) H1 s1
      · walk_at "nx"
        exact fin (by rw [eh, if_neg (fun z => z.2 h1)]) H1 _ s1
    · walk_at "nx"
      exact fin (by rw [eh, if_neg (fun z => h0 z.1)]) H1 _ s1
/-! ### lay -/
def sp_Book_lay (K : PySem.W.Frag) : Sp := fun vs H Q E => ∃ b fp s k a, vs = [.ref b, .int k, .int a] ∧ Book K H b fp s ∧ OkB s ∧ Small s ∧
  (∀ n s', layB s k a = .ok (n, s') → ∀ H' fp', Book K H' b fp' s' → Keeps fp H H' → Grows fp fp' H → Q (.int n) H') ∧
  ∀ x, layB s k a = .error x → ∀ H', Same H H' → E (.ref (He.ga K (Str.ofString x))) none H'
/-- Book_lay: slots self, cord, amount, row, line, name -/
def t_Book_lay (K : PySem.W.Frag) (E : XK) : TS :=
  tSeq (tAsg (tMeth (He.ga K "Book") "asked" (sp_Book_asked K) [] E (tVar 0) (tCons (tVar 1) tNil)) (gName 3)) (tSeq (tIfS (tNot (tB (tMeth (He.ga K "Book") "is_end" (sp_Book_is_end K) [] E0 (tVar 0) (tCons (tVar 1) tNil)))) (tRaise E (He.ga K "NotEnd")) tNext) (tSeq (tAsg (tMeth (He.ga K "Book") "line" (sp_Book_line K) [] E0 (tVar 0) (tCons (tVar 1) tNil)) (gName 4)) (tSeq (tFor (iList K (tVar 4)) (gName 5) (tIfS (tNot (tTest (tChain rLeI rLeI (tC (.int 0)) (tOp rAddI (tOp (rIxT K) (tDGet (tFld K (tVar 0) "rows") (tVar 5)) (tC (.int 2))) (tVar 2)) (tC (.int 999))))) (tRaise E (He.ga K "TooMuch")) tNext)) (tSeq (tDrop (tMeth (He.ga K "Book") "kept" (sp_Book_kept K) [] E0 (tVar 0) tNil)) (tSeq (tDrop (tMeth (He.ga K "Book") "grown" (sp_Book_grown K) [] E0 (tVar 0) (tCons (tVar 4) (tCons (tVar 2) tNil)))) (tRet (tOp rAddI (tOp (rIxT K) (tVar 3) (tC (.int 2))) (tVar 2))))))))
abbrev n_Book_lay : List Str := ["self", "cord", "amount", "row", "line", "name"]

theorem len_Book_lay (h : sp_Book_lay K vs H Q E) : vs.length = (["self", "cord", "amount"] : List Str).length := by
  obtain ⟨_, _, _, _, _, rfl, _⟩ := h
  rfl
theorem pure_Book_lay (K : PySem.W.Frag) (c : BookC K) (vs : List V) (H : Hp) (Q : VK) (E : XK) (h : sp_Book_lay K vs H Q E) : t_Book_lay K E { nx := fun _ H' => Q .non H', rt := Q } (start n_Book_lay vs) H := by
  obtain ⟨b, fp, s, k, am, rfl, B, ok, sm, q, qe⟩ := h
  unfold t_Book_lay
  walk_at "go"
  refine B.meth ?_
  walk_at "go"
  refine ⟨b, fp, s, k, rfl, B, fun w t ew ht => ?_, fun e => qe "NoCord" (by unfold layB; rw [layX_none e]) H (Same.refl _)⟩
  have hwf := ok.now.wf
  have sr := sm.r
  have el := layX_some (a := am) ew
  have eb : ∀ x, layX s.R k am = some x → layB s k am = .error x := fun x hx => by unfold layB; rw [hx]
  walk_at "go"
  refine B.meth ?_
  walk_at "go"
  refine ⟨b, fp, s, k, w, rfl, B, hwf.asc, by omega, ew, fun H1 s1 => ?_⟩
  walk_at "go"
  refine g_iteN (fun h0 => ?_) (fun h0 => ?_)
  · walk_at "go"
    exact qe "NotEnd" (eb _ (by rw [el, if_pos h0])) H1 s1
  rw [if_neg (fun z => z h0)] at el
  walk_at "go"
  refine (B.same s1).meth ?_
  walk_at "go"
  refine ⟨b, fp, s, some k, lineR s.R (some k), rfl, B.same s1, hwf.of ew, by omega, fun p H2 hp s2 h2 => ?_⟩
  have hL := hwf.of ew
  obtain ⟨L, eL⟩ : ∃ L, L = lineR s.R (some k) := ⟨_, rfl⟩
  have eL0 := eL
  rw [← eL] at h2 hL el
  clear eL
  have s12 := s1.trans s2
  walk_at "go"
  refine g_forL ?_
  walk_at "go"
  refine for_go (xs := L.map V.int) ?_
  have run : ∀ (r : List Int) (w5 : Option V), (∀ x ∈ r, x ∈ keysR s.R) → ((∃ x ∈ r, ¬ (0 ≤ numR s.R x + am ∧ numR s.R x + am ≤ 999)) → E (.ref (He.ga K "TooMuch")) none H2) →
      ∀ (nx : L2.St → Hp → Prop), ((∀ x ∈ r, 0 ≤ numR s.R x + am ∧ numR s.R x + am ≤ 999) → ∀ w5, nx [some (.ref b), some (.int k), some (.int am), some (.ref t), some (.ref p), w5] H2) →
      forRun K p (L.map V.int) (gName 5) (tIfS (tNot (tTest (tChain rLeI rLeI (tC (.int 0)) (tOp rAddI (tOp (rIxT K) (tDGet (tFld K (tVar 0) "rows") (tVar 5)) (tC (.int 2))) (tVar 2)) (tC (.int 999))))) (tRaise E (He.ga K "TooMuch")) tNext)
        { nx := nx, rt := Q } (r.map V.int) [some (.ref b), some (.int k), some (.int am), some (.ref t), some (.ref p), w5] H2 := by
    intro r
    induction r with
    | nil =>
      intro w5 hk he nx hn
      exact ⟨SqL.of h2, hn (fun x hx => by cases hx) _⟩
    | cons x r ih =>
      intro w5 hk he nx hn
      refine ⟨SqL.of h2, ?_⟩
      obtain ⟨z, ez⟩ := key_rget (hk x List.mem_cons_self)
      obtain ⟨dx, d, l, ds, kvs, pvs, rfl, B2⟩ := B.same s12
      obtain ⟨t2, e1, ht2⟩ := (B2.rows.get x).2 z ez
      have en : numR s.R x = z.2.2 := by unfold numR; rw [ez]
      walk_at "go"
      refine g_rows c B2 ?_
      walk_at "go"
      refine ⟨d, .ref t2, rfl, by rw [← e1]; exact DGet.k (k := Sum.inl x) B2.dic, ?_⟩
      walk_at "go"
      refine g_ixT (row_at ht2) (show atI (rowV z) 2 = some (.int z.2.2) from rfl) ?_
      walk_at "go"
      refine g_iteD (fun h1 => ?_) (fun h1 => ?_)
      · walk_at "go"
        refine g_iteN (fun h3 => ?_) (fun h3 => ?_)
        · walk_at "go"
          exact he ⟨x, List.mem_cons_self, fun y => h3 (by rw [← en]; exact y.2)⟩
        · walk_at "go"
          refine ih _ (fun y hy => hk y (List.mem_cons_of_mem _ hy)) (fun ⟨y, hy, hz⟩ => he ⟨y, List.mem_cons_of_mem _ hy, hz⟩) nx fun hall => hn fun y hy => ?_
          rcases List.mem_cons.mp hy with rfl | hy
          · rw [en]; exact ⟨h1, h3⟩
          · exact hall y hy
      · walk_at "go"
        exact he ⟨x, List.mem_cons_self, fun y => h1 (by rw [← en]; exact y.1)⟩
  refine run L _ hL.keys (fun hex => qe "TooMuch" (eb _ (by rw [el, if_pos hex])) H2 s12) _ fun hall w5 => ?_
  rw [if_neg (fun ⟨x, hx, hz⟩ => hz (hall x hx))] at el
  have eok : layB s k am = .ok (w.2.2 + am, keep s (growR s.R L am)) := by unfold layB; rw [el, numR_some ew, ← eL0]
  have Bs := B.same s12
  walk_at "go"
  refine Bs.meth ?_
  walk_at "go"
  refine ⟨b, fp, s, rfl, Bs, by have := sm.p; omega, fun H3 fp3 B3 k3 g3 _ => ?_⟩
  walk_at "go"
  refine B3.meth ?_
  walk_at "go"
  have hpn : p ∉ fp := (B.same s1).new hp
  have h3 : H3 p = some (.lst (L.map V.int)) := k3 _ _ h2 hpn
  refine ⟨b, fp3, keep s s.R, p, L, am, rfl, B3, SqL.of h3, g3.out h2 hpn, hL.nodup, hL.keys, hwf.nd, by show s.R.length ≤ 1000; omega, fun H4 B4 k4 => ?_⟩
  walk_at "go"
  have ht4 : H4 t = some (.tup (rowV w)) := B3.keepT k4 (Bs.keepT k3 (s12 _ _ ht))
  refine g_ixT (row_at ht4) (show atI (rowV w) 2 = some (.int w.2.2) from rfl) ?_
  walk_at "go"
  refine q _ _ eok H4 fp3 B4 ?_ ?_
  · exact (show Keeps fp H H3 from fun a u ha hn => k3 a u (s12 _ _ ha) hn).trans (fun a ha => (g3 a ha).imp id fun z => s12.free z) k4
  · exact fun a ha => (g3 a ha).imp id fun z => s12.free z
end
end Cor

/-! ## PuB5 -/
namespace Cor
open PySem PySem.Spec PyProof.Rows L2
section
variable {K : PySem.W.Frag} {vs : List V} {H H' : Hp} {Q : VK} {E : XK} {b dx d l : Addr} {ds fp : List Addr} {kvs : List (Key × V)} {pvs : List V} {s : Bk} {R : Rows}
/-! ### move -/
def sp_Book_move (K : PySem.W.Frag) : Sp := fun vs H Q E => ∃ b fp s k p, vs = [.ref b, .int k, oV p] ∧ Book K H b fp s ∧ OkB s ∧ Small s ∧
  (∀ n s', moveB s k p = .ok (n, s') → ∀ H' fp', Book K H' b fp' s' → Keeps fp H H' → Grows fp fp' H → Q (.int n) H') ∧
  ∀ x, moveB s k p = .error x → ∀ H', Same H H' → E (.ref (He.ga K (Str.ofString x))) none H'
/-- Book_move: slots self, cord, over, row, place, losing, gaining, name -/
def t_Book_move (K : PySem.W.Frag) (E : XK) : TS :=
  tSeq (tAsg (tMeth (He.ga K "Book") "asked" (sp_Book_asked K) [] E (tVar 0) (tCons (tVar 1) tNil)) (gName 3)) (tSeq (tIfS (tTest (tOp rNotN (tVar 2) (tC .non))) (tSeq (tAsg (tMeth (He.ga K "Book") "asked" (sp_Book_asked K) [] E (tVar 0) (tCons (tVar 2) tNil)) (gName 4)) (tSeq (tIfS (tTest (tOp (rIn K false) (tVar 2) (tMeth (He.ga K "Book") "beneath" (sp_Book_beneath K) [] E0 (tVar 0) (tCons (tVar 1) tNil)))) (tRaise E (He.ga K "Ring")) tNext) (tIfS (tAnd (tB (tMeth (He.ga K "Book") "is_end" (sp_Book_is_end K) [] E0 (tVar 0) (tCons (tVar 2) tNil))) (tTest (tOp rNe (tOp (rIxT K) (tVar 4) (tC (.int 2))) (tC (.int 0))))) (tRaise E (He.ga K "Knotted")) tNext))) tNext) (tSeq (tAsg (tMeth (He.ga K "Book") "line" (sp_Book_line K) [] E0 (tVar 0) (tCons (tOp (rIxT K) (tVar 3) (tC (.int 0))) tNil)) (gName 5)) (tSeq (tAsg (tMeth (He.ga K "Book") "line" (sp_Book_line K) [] E0 (tVar 0) (tCons (tVar 2) tNil)) (gName 6)) (tSeq (tFor (iList K (tVar 6)) (gName 7) (tIfS (tAnd (tTest (tOp (rIn K true) (tVar 7) (tVar 5))) (tTest (tOp rGtI (tOp rAddI (tOp (rIxT K) (tDGet (tFld K (tVar 0) "rows") (tVar 7)) (tC (.int 2))) (tOp (rIxT K) (tVar 3) (tC (.int 2)))) (tC (.int 999))))) (tRaise E (He.ga K "TooMuch")) tNext)) (tSeq (tDrop (tMeth (He.ga K "Book") "kept" (sp_Book_kept K) [] E0 (tVar 0) tNil)) (tSeq (tDrop (tMeth (He.ga K "Book") "grown" (sp_Book_grown K) [] E0 (tVar 0) (tCons (tVar 5) (tCons (tUn rNegI (tOp (rIxT K) (tVar 3) (tC (.int 2)))) tNil)))) (tSeq (tDrop (tMeth (He.ga K "Book") "grown" (sp_Book_grown K) [] E0 (tVar 0) (tCons (tVar 6) (tCons (tOp (rIxT K) (tVar 3) (tC (.int 2))) tNil)))) (tSeq (sDPut (tFld K (tVar 0) "rows") (tVar 1) (tTup (tCons (tVar 2) (tCons (tOp (rIxT K) (tVar 3) (tC (.int 1))) (tCons (tOp (rIxT K) (tVar 3) (tC (.int 2))) tNil))))) (tRet (tOp (rIxT K) (tVar 3) (tC (.int 2))))))))))))
abbrev n_Book_move : List Str := ["self", "cord", "over", "row", "place", "losing", "gaining", "name"]

theorem len_Book_move (h : sp_Book_move K vs H Q E) : vs.length = (["self", "cord", "over"] : List Str).length := by
  obtain ⟨_, _, _, _, _, rfl, _⟩ := h
  rfl
theorem pure_Book_move (K : PySem.W.Frag) (c : BookC K) (vs : List V) (H : Hp) (Q : VK) (E : XK) (h : sp_Book_move K vs H Q E) : t_Book_move K E { nx := fun _ H' => Q .non H', rt := Q } (start n_Book_move vs) H := by
  obtain ⟨b, fp, s, k, p, rfl, B, ok, sm, q, qe⟩ := h
  have hwf := ok.now.wf
  have sr := sm.r
  -- behind the place's tests
  have fin : ∀ (w : RwD Str) (t : Addr), rget s.R k = some w → moveX s k p = none → ∀ (H1 : Hp) (w4 : Option V), Same H H1 → H1 t = some (.tup (rowV w)) → tSeq (tAsg (tMeth (He.ga K "Book") "line" (sp_Book_line K) [] E0 (tVar 0) (tCons (tOp (rIxT K) (tVar 3) (tC (.int 0))) tNil)) (gName 5)) (tSeq (tAsg (tMeth (He.ga K "Book") "line" (sp_Book_line K) [] E0 (tVar 0) (tCons (tVar 2) tNil)) (gName 6)) (tSeq (tFor (iList K (tVar 6)) (gName 7) (tIfS (tAnd (tTest (tOp (rIn K true) (tVar 7) (tVar 5))) (tTest (tOp rGtI (tOp rAddI (tOp (rIxT K) (tDGet (tFld K (tVar 0) "rows") (tVar 7)) (tC (.int 2))) (tOp (rIxT K) (tVar 3) (tC (.int 2)))) (tC (.int 999))))) (tRaise E (He.ga K "TooMuch")) tNext)) (tSeq (tDrop (tMeth (He.ga K "Book") "kept" (sp_Book_kept K) [] E0 (tVar 0) tNil)) (tSeq (tDrop (tMeth (He.ga K "Book") "grown" (sp_Book_grown K) [] E0 (tVar 0) (tCons (tVar 5) (tCons (tUn rNegI (tOp (rIxT K) (tVar 3) (tC (.int 2)))) tNil)))) (tSeq (tDrop (tMeth (He.ga K "Book") "grown" (sp_Book_grown K) [] E0 (tVar 0) (tCons (tVar 6) (tCons (tOp (rIxT K) (tVar 3) (tC (.int 2))) tNil)))) (tSeq (sDPut (tFld K (tVar 0) "rows") (tVar 1) (tTup (tCons (tVar 2) (tCons (tOp (rIxT K) (tVar 3) (tC (.int 1))) (tCons (tOp (rIxT K) (tVar 3) (tC (.int 2))) tNil))))) (tRet (tOp (rIxT K) (tVar 3) (tC (.int 2))))))))))
      { nx := fun _ H' => Q .non H', rt := Q } [some (.ref b), some (.int k), some (oV p), some (.ref t), w4, none, none, none] H1 := by
    intro w t ew ex H1 w4 s1 ht
    have em := moveB_eq (p := p) ew
    rw [ex] at em
    dsimp only at em
    have hL1 := hwf.over ew
    obtain ⟨hL2, hkn⟩ := moveX_free ex hwf
    have emR : moveR s.R k p w = rput (growR (growR s.R (lineR s.R w.1) (-w.2.2)) (lineR s.R p) w.2.2) k (p, w.2.1, w.2.2) := rfl
    obtain ⟨Lo, eLo⟩ : ∃ L, L = lineR s.R w.1 := ⟨_, rfl⟩
    obtain ⟨Lg, eLg⟩ : ∃ L, L = lineR s.R p := ⟨_, rfl⟩
    rw [← eLo] at em hL1 emR
    rw [← eLg] at em hL2 hkn emR
    clear eLo eLg
    walk_at "go"
    refine (B.same s1).meth ?_
    walk_at "go"
    refine g_ixT (row_at ht) (show atI (rowV w) 0 = some (oV w.1) from rfl) ?_
    walk_at "go"
    refine ⟨b, fp, s, w.1, Lo, rfl, B.same s1, hL1, by omega, fun p5 H2 hp5 s2 h5 => ?_⟩
    walk_at "go"
    have s12 := s1.trans s2
    refine (B.same s12).meth ?_
    walk_at "go"
    refine ⟨b, fp, s, p, Lg, rfl, B.same s12, hL2, by omega, fun p6 H3 hp6 s3 h6 => ?_⟩
    walk_at "go"
    have s13 := s12.trans s3
    have h5' := s3 _ _ h5
    have ht3 := s3 _ _ (s2 _ _ ht)
    refine g_forL ?_
    walk_at "go"
    refine for_go (xs := Lg.map V.int) ?_
    have run : ∀ (r : List Int) (w7 : Option V), (∀ x ∈ r, x ∈ keysR s.R) → ((∃ x ∈ r, x ∉ Lo ∧ numR s.R x + w.2.2 > 999) → E (.ref (He.ga K "TooMuch")) none H3) →
        ∀ (nx : L2.St → Hp → Prop), ((∀ x ∈ r, ¬ (x ∉ Lo ∧ numR s.R x + w.2.2 > 999)) → ∀ w7, nx [some (.ref b), some (.int k), some (oV p), some (.ref t), w4, some (.ref p5), some (.ref p6), w7] H3) →
        forRun K p6 (Lg.map V.int) (gName 7) (tIfS (tAnd (tTest (tOp (rIn K true) (tVar 7) (tVar 5))) (tTest (tOp rGtI (tOp rAddI (tOp (rIxT K) (tDGet (tFld K (tVar 0) "rows") (tVar 7)) (tC (.int 2))) (tOp (rIxT K) (tVar 3) (tC (.int 2)))) (tC (.int 999))))) (tRaise E (He.ga K "TooMuch")) tNext)
          { nx := nx, rt := Q } (r.map V.int) [some (.ref b), some (.int k), some (oV p), some (.ref t), w4, some (.ref p5), some (.ref p6), w7] H3 := by
      intro r
      induction r with
      | nil =>
        intro w7 hk he nx hn
        exact ⟨SqL.of h6, hn (fun x hx => by cases hx) _⟩
      | cons x r ih =>
        intro w7 hk he nx hn
        refine ⟨SqL.of h6, ?_⟩
        obtain ⟨z, ez⟩ := key_rget (hk x List.mem_cons_self)
        obtain ⟨dx, d, l, ds, kvs, pvs, rfl, B2⟩ := B.same s13
        obtain ⟨t2, e1, ht2⟩ := (B2.rows.get x).2 z ez
        have en : numR s.R x = z.2.2 := by unfold numR; rw [ez]
        have nxt : ¬ (x ∉ Lo ∧ numR s.R x + w.2.2 > 999) → forRun K p6 (Lg.map V.int) (gName 7) (tIfS (tAnd (tTest (tOp (rIn K true) (tVar 7) (tVar 5))) (tTest (tOp rGtI (tOp rAddI (tOp (rIxT K) (tDGet (tFld K (tVar 0) "rows") (tVar 7)) (tC (.int 2))) (tOp (rIxT K) (tVar 3) (tC (.int 2)))) (tC (.int 999))))) (tRaise E (He.ga K "TooMuch")) tNext)
          { nx := nx, rt := Q } (r.map V.int) [some (.ref b), some (.int k), some (oV p), some (.ref t), w4, some (.ref p5), some (.ref p6), some (.int x)] H3 := fun hx => by
          refine ih _ (fun y hy => hk y (List.mem_cons_of_mem _ hy)) (fun ⟨y, hy, hz⟩ => he ⟨y, List.mem_cons_of_mem _ hy, hz⟩) nx fun hall => hn fun y hy => ?_
          rcases List.mem_cons.mp hy with rfl | hy
          · exact hx
          · exact hall y hy
        walk_at "go"
        refine g_notin (SqL.of h5') rfl (flat_int _) ?_
        walk_at "go"
        rw [in_int]
        refine g_iteN (fun h1 => ?_) (fun h1 => ?_)
        · walk_at "go"
          refine g_rows c B2 ?_
          walk_at "go"
          refine ⟨d, .ref t2, rfl, by rw [← e1]; exact DGet.k (k := Sum.inl x) B2.dic, ?_⟩
          walk_at "go"
          refine g_ixT (row_at ht2) (show atI (rowV z) 2 = some (.int z.2.2) from rfl) ?_
          walk_at "go"
          refine g_ixT (row_at ht3) (show atI (rowV w) 2 = some (.int w.2.2) from rfl) ?_
          walk_at "go"
          refine g_iteD (fun h3 => ?_) (fun h3 => ?_)
          · walk_at "go"
            exact he ⟨x, List.mem_cons_self, h1, by rw [en]; exact h3⟩
          · walk_at "go"
            exact nxt fun y => h3 (by rw [← en]; exact y.2)
        · walk_at "go"
          exact nxt fun y => y.1 h1
    refine run Lg _ hL2.keys (fun hex => qe "TooMuch" (by rw [em, if_pos hex]) H3 s13) _ fun hall w7 => ?_
    rw [if_neg (fun ⟨x, hx, hz⟩ => hall x hx hz)] at em
    have B3 := B.same s13
    walk_at "go"
    refine B3.meth ?_
    walk_at "go"
    refine ⟨b, fp, s, rfl, B3, by have := sm.p; omega, fun H4 fp4 B4 k4 g4 _ => ?_⟩
    have n5 : p5 ∉ fp := (B.same s1).new hp5
    have n6 : p6 ∉ fp := (B.same s12).new hp6
    have h54 := k4 _ _ h5' n5
    have h64 := k4 _ _ h6 n6
    have n54 := g4.out h5' n5
    have n64 := g4.out h6 n6
    have ht4 := B3.keepT k4 ht3
    walk_at "go"
    refine B4.meth ?_
    walk_at "go"
    refine g_ixT (row_at ht4) (show atI (rowV w) 2 = some (.int w.2.2) from rfl) ?_
    walk_at "go"
    refine ⟨b, fp4, keep s s.R, p5, Lo, -w.2.2, rfl, B4, SqL.of h54, n54, hL1.nodup, hL1.keys, hwf.nd, by show s.R.length ≤ 1000; omega, fun H5 B5 k5 => ?_⟩
    have h65 := k5 _ _ h64 n64
    have ht5 := B4.keepT k5 ht4
    walk_at "go"
    refine B5.meth ?_
    walk_at "go"
    refine g_ixT (row_at ht5) (show atI (rowV w) 2 = some (.int w.2.2) from rfl) ?_
    walk_at "go"
    have sh : keysR (growR s.R Lo (-w.2.2)) = keysR s.R := shape_keys (shape_grow _ _ _)
    have ln : (growR s.R Lo (-w.2.2)).length = s.R.length := shape_len (shape_grow _ _ _)
    refine ⟨b, fp4, ⟨growR s.R Lo (-w.2.2), s.fol, (keep s s.R).past⟩, p6, Lg, w.2.2, rfl, B5, SqL.of h65, n64, hL2.nodup, ?_, ?_, ?_, fun H6 B6 k6 => ?_⟩
    · show ∀ x ∈ Lg, x ∈ keysR (growR s.R Lo (-w.2.2))
      rw [sh]
      exact hL2.keys
    · show (keysR (growR s.R Lo (-w.2.2))).Nodup
      rw [sh]
      exact hwf.nd
    · show (growR s.R Lo (-w.2.2)).length ≤ 1000
      omega
    have ht6 := B5.keepT k6 ht5
    walk_at "go"
    refine g_ixT (row_at ht6) (show atI (rowV w) 1 = some (.str w.2.1) from rfl) ?_
    walk_at "go"
    refine g_ixT (row_at ht6) (show atI (rowV w) 2 = some (.int w.2.2) from rfl) ?_
    walk_at "go"
    intro u hu
    obtain ⟨H7, e7⟩ : ∃ H7, H7 = upd H6 u (.tup [oV p, .str w.2.1, .int w.2.2]) := ⟨_, rfl⟩
    have s7 : Same H6 H7 := by rw [e7]; exact same_new hu
    have hu7 : H7 u = some (.tup (rowV (p, w.2.1, w.2.2))) := by rw [e7]; exact upd_same
    rw [← e7]
    have hk6 : Keeps fp H H6 := (show Keeps fp H H4 from fun a u ha hn => k4 a u (s13 _ _ ha) hn).trans (fun a ha => (g4 a ha).imp id fun z => s13.free z) (k5.trans (Grows.refl _ _) k6)
    obtain ⟨dx, d, l, ds, kvs, pvs, efp, B6'⟩ := B6
    have B7 := B6'.mono s7
    walk_at "go"
    refine g_rows c B7 ?_
    walk_at "go"
    have ln2 : (growR (growR s.R Lo (-w.2.2)) Lg w.2.2).length = s.R.length := (shape_len (shape_grow _ _ _)).trans ln
    refine ⟨d, _, rfl, DPut.k (k := Sum.inl k) B7.dic (sz_lt (by rw [B7.rows.len]; show (growR (growR s.R Lo (-w.2.2)) Lg w.2.2).length < 100000; omega)), ?_⟩
    have B8 := B7.put k hu7
    have ht8 : (upd H7 d (.dK (putK kvs (Sum.inl k) (.ref u)))) t = some (.tup (rowV w)) := by
      rw [upd_ne (ne_kind (s7 _ _ ht6) B7.dic (by intro z; cases z))]
      exact s7 _ _ ht6
    walk_at "go"
    refine g_ixT (row_at ht8) (show atI (rowV w) 2 = some (.int w.2.2) from rfl) ?_
    rw [emR] at em
    refine q _ _ em _ fp4 ⟨dx, d, l, ds, _, pvs, efp, B8⟩ ?_ (fun a ha => (g4 a ha).imp id fun z => s13.free z)
    intro a z ha hn
    have hd4 : d ∈ fp4 := by rw [efp]; simp
    have na : a ∉ fp4 := (show Grows fp fp4 H from fun a ha => (g4 a ha).imp id fun z => s13.free z).out ha hn
    rw [upd_ne (fun y => na (by rw [y]; exact hd4))]
    exact s7 _ _ (hk6 a z ha hn)
  unfold t_Book_move
  walk_at "go"
  refine B.meth ?_
  walk_at "go"
  refine ⟨b, fp, s, k, rfl, B, fun w t ew ht => ?_, fun e => qe "NoCord" (by unfold moveB; rw [e]) H (Same.refl _)⟩
  have em := moveB_eq (p := p) ew
  walk_at "go"
  cases p with
  | none =>
    walk_at "nx"
    exact fin w t ew rfl H none (Same.refl _) ht
  | some q' =>
    walk_at "go"
    refine B.meth ?_
    walk_at "go"
    refine ⟨b, fp, s, q', rfl, B, fun z t2 ez ht2 => ?_, fun e => qe "NoCord" (by rw [em, moveX_none e]) H (Same.refl _)⟩
    have eX := moveX_some (c := k) ez
    walk_at "go"
    refine B.meth ?_
    walk_at "go"
    refine ⟨b, fp, s, k, rfl, B, hwf, by omega, rget_key ew, fun L p1 H1 nd hm hp1 s1 h1 => ?_⟩
    refine g_in (SqL.of h1) rfl (flat_int _) ?_
    walk_at "go"
    rw [in_int]
    refine g_iteD (fun h3 => ?_) (fun h3 => ?_)
    · walk_at "go"
      have h4 := (under_iff hwf (rget_key ez)).mp ((hm q').mp h3)
      exact qe "Ring" (by rw [em, eX, if_pos h4]) H1 s1
    have h4 : k ∉ lineR s.R (some q') := fun y => h3 ((hm q').mpr ((under_iff hwf (rget_key ez)).mpr y))
    rw [if_neg h4] at eX
    walk_at "go"
    refine (B.same s1).meth ?_
    walk_at "go"
    refine ⟨b, fp, s, q', z, rfl, B.same s1, hwf.asc, by omega, ez, fun H2 s2 => ?_⟩
    have s12 := s1.trans s2
    walk_at "go"
    refine g_iteD (fun h0 => ?_) (fun h0 => ?_)
    · walk_at "go"
      refine g_ixT (row_at (s12 _ _ ht2)) (show atI (rowV z) 2 = some (.int z.2.2) from rfl) ?_
      walk_at "go"
      refine g_iteN (fun h5 => ?_) (fun h5 => ?_)
      · walk_at "go"
        exact qe "Knotted" (by rw [em, eX, if_pos ⟨h0, h5⟩]) H2 s12
      · walk_at "nx"
        exact fin w t ew (by rw [eX, if_neg (fun y => y.2 h5)]) H2 _ s12 (s12 _ _ ht)
    · walk_at "nx"
      exact fin w t ew (by rw [eX, if_neg (fun y => h0 y.1)]) H2 _ s12 (s12 _ _ ht)
end
end Cor

/-! ## PuB6 -/
namespace Cor
open PySem PySem.Spec PyProof.Rows L2
section
variable {K : PySem.W.Frag} {vs : List V} {H H' : Hp} {Q : VK} {E : XK} {b dx d l : Addr} {ds fp : List Addr} {kvs : List (Key × V)} {pvs : List V} {s : Bk} {R : Rows}
/-! ### cut -/
def sp_Book_cut (K : PySem.W.Frag) : Sp := fun vs H Q E => ∃ b fp s k, vs = [.ref b, .int k] ∧ Book K H b fp s ∧ OkB s ∧ Small s ∧
  (∀ g s', cutB s k = .ok (g, s') → ∀ p H' fp', Book K H' b fp' s' → Keeps fp H H' → Grows fp fp' H → H p = none → p ∉ fp' → H' p = some (.lst (g.map V.int)) → Q (.ref p) H') ∧
  ∀ x, cutB s k = .error x → E (.ref (He.ga K (Str.ofString x))) none H
/-- Book_cut: slots self, cord, row, gone, left, name -/
def t_Book_cut (K : PySem.W.Frag) (E : XK) : TS :=
  tSeq (tAsg (tMeth (He.ga K "Book") "asked" (sp_Book_asked K) [] E (tVar 0) (tCons (tVar 1) tNil)) (gName 2)) (tSeq (tAsg (tCB (rSortedI K) (tCons (tMeth (He.ga K "Book") "beneath" (sp_Book_beneath K) [] E0 (tVar 0) (tCons (tVar 1) tNil)) tNil)) (gName 3)) (tSeq (tDrop (tMeth (He.ga K "Book") "kept" (sp_Book_kept K) [] E0 (tVar 0) tNil)) (tSeq (tDrop (tMeth (He.ga K "Book") "grown" (sp_Book_grown K) [] E0 (tVar 0) (tCons (tMeth (He.ga K "Book") "line" (sp_Book_line K) [] E0 (tVar 0) (tCons (tOp (rIxT K) (tVar 2) (tC (.int 0))) tNil)) (tCons (tUn rNegI (tOp (rIxT K) (tVar 2) (tC (.int 2)))) tNil)))) (tSeq (tAsg tDNewK (gName 4)) (tSeq (tFor (iList K (tMeth (He.ga K "Book") "cords" (sp_Book_cords K) [] E0 (tVar 0) tNil)) (gName 5) (tIfS (tTest (tOp (rIn K true) (tVar 5) (tVar 3))) (sDPut (tVar 4) (tVar 5) (tDGet (tFld K (tVar 0) "rows") (tVar 5))) tNext)) (tSeq (sFld K (tVar 0) (tVar 4) "rows") (tRet (tVar 3))))))))
abbrev n_Book_cut : List Str := ["self", "cord", "row", "gone", "left", "name"]

theorem len_Book_cut (h : sp_Book_cut K vs H Q E) : vs.length = (["self", "cord"] : List Str).length := by
  obtain ⟨_, _, _, _, rfl, _⟩ := h
  rfl
/-- the dict of rows changed for another -/
theorem BookAt.setRows {d' : Addr} {kvs' : List (Key × V)} {R' : Rows} (B : BookAt K H b dx d l ds kvs pvs s) (h1 : H d' = some (.dK kvs')) (h2 : RowsAt H kvs' R') (h3 : d' ∉ ds) :
    BookAt K (upd H b (.ins (He.ga K "Book") dx (flds d' l s.fol))) b dx d' l ds kvs' pvs ⟨R', s.fol, s.past⟩ := by
  have kn : ∀ a u, H a = some u → u ≠ .ins (He.ga K "Book") dx (flds d l s.fol) → (upd H b (.ins (He.ga K "Book") dx (flds d' l s.fol))) a = some u := fun a u ha hu => by
    rw [upd_ne (ne_kind ha B.ins hu)]
    exact ha
  have kt : ∀ a xs, H a = some (.tup xs) → (upd H b (.ins (He.ga K "Book") dx (flds d' l s.fol))) a = some (.tup xs) := fun a xs ha => kn _ _ ha (by intro z; cases z)
  refine ⟨upd_same, kn _ _ h1 (by intro z; cases z), h2.mono kt, kn _ _ B.lst (by intro z; cases z), B.past.mono kt fun a ha u hu => ?_, List.nodup_cons.mpr ⟨h3, (List.nodup_cons.mp B.nd).2⟩⟩
  obtain ⟨kk, hk⟩ := B.past.dic a ha
  rw [hk] at hu
  cases hu
  exact kn _ _ hk (by intro z; cases z)
theorem pure_Book_cut (K : PySem.W.Frag) (c : BookC K) (vs : List V) (H : Hp) (Q : VK) (E : XK) (h : sp_Book_cut K vs H Q E) : t_Book_cut K E { nx := fun _ H' => Q .non H', rt := Q } (start n_Book_cut vs) H := by
  obtain ⟨b, fp, s, k, rfl, B, ok, sm, q, qe⟩ := h
  have hwf := ok.now.wf
  have sr := sm.r
  unfold t_Book_cut
  walk_at "go"
  refine B.meth ?_
  walk_at "go"
  refine ⟨b, fp, s, k, rfl, B, fun w t ew ht => ?_, fun e => qe "NoCord" (by unfold cutB; rw [e])⟩
  have ec : cutB s k = .ok (underL s.R k, keep s (cutR s.R k w)) := by
    unfold cutB
    rw [ew]
  walk_at "go"
  refine B.meth ?_
  walk_at "go"
  refine ⟨b, fp, s, k, rfl, B, hwf, by omega, rget_key ew, fun L p1 H1 nd hm hp1 s1 h1 => ?_⟩
  walk_at "go"
  refine ⟨p1, L, rfl, SqL.of h1, fun ns' p3 pm rising hp3 => ?_⟩
  have en : ns' = underL s.R k := asc_perm (underL_asc hwf.asc) (pm.trans (under_perm hwf nd hm)) rising
  subst en
  obtain ⟨H2, e2⟩ : ∃ H2, H2 = upd H1 p3 (.lst ((underL s.R k).map V.int)) := ⟨_, rfl⟩
  have s2 : Same H1 H2 := by rw [e2]; exact same_new hp3
  have h3 : H2 p3 = some (.lst ((underL s.R k).map V.int)) := by rw [e2]; exact upd_same
  rw [← e2]
  clear e2
  have s12 := s1.trans s2
  have B2 := B.same s12
  walk_at "go"
  refine B2.meth ?_
  walk_at "go"
  refine ⟨b, fp, s, rfl, B2, by have := sm.p; omega, fun H3 fp3 B3 k3 g3 i3 => ?_⟩
  have n3 : p3 ∉ fp := (B.same s1).new hp3
  have h33 := k3 _ _ h3 n3
  have n33 := g3.out h3 n3
  have ht3 := B2.keepT k3 (s12 _ _ ht)
  walk_at "go"
  refine B3.meth ?_
  walk_at "go"
  refine B3.meth ?_
  walk_at "go"
  refine g_ixT (row_at ht3) (show atI (rowV w) 0 = some (oV w.1) from rfl) ?_
  walk_at "go"
  have hL1 := hwf.over ew
  refine ⟨b, fp3, keep s s.R, w.1, lineR s.R w.1, rfl, B3, hL1, by show s.R.length ≤ 1000; omega, fun p4 H4 hp4 s4 h4 => ?_⟩
  walk_at "go"
  refine g_ixT (row_at (s4 _ _ ht3)) (show atI (rowV w) 2 = some (.int w.2.2) from rfl) ?_
  walk_at "go"
  have B4 := B3.same s4
  have n4 : p4 ∉ fp3 := B3.new hp4
  refine ⟨b, fp3, keep s s.R, p4, lineR s.R w.1, -w.2.2, rfl, B4, SqL.of h4, n4, hL1.nodup, hL1.keys, hwf.nd, by show s.R.length ≤ 1000; omega, fun H5 B5 k5 => ?_⟩
  have h35 := k5 _ _ (s4 _ _ h33) n33
  obtain ⟨R1, eR1⟩ : ∃ R1, R1 = growR s.R (lineR s.R w.1) (-w.2.2) := ⟨_, rfl⟩
  have sh : keysR R1 = keysR s.R := by rw [eR1]; exact shape_keys (shape_grow _ _ _)
  have ln : R1.length = s.R.length := by rw [← keys_len, ← keys_len, sh]
  have ecR : cutR s.R k w = R1.filter fun p => decide (p.1 ∉ underL s.R k) := by rw [eR1] <;> rfl
  have B5 : Book K H5 b fp3 ⟨R1, s.fol, (keep s s.R).past⟩ := by rw [eR1]; exact B5
  clear eR1
  walk_at "go"
  intro d' hd'
  walk_at "go"
  refine g_forL ?_
  walk_at "go"
  obtain ⟨H6, e6⟩ : ∃ H6, H6 = upd H5 d' (.dK []) := ⟨_, rfl⟩
  have s6 : Same H5 H6 := by rw [e6]; exact same_new hd'
  have hd6 : H6 d' = some (.dK []) := by rw [e6]; exact upd_same
  have nd3 : d' ∉ fp3 := B5.new hd'
  rw [← e6]
  clear e6
  have B6 := B5.same s6
  refine B6.meth ?_
  walk_at "go"
  refine ⟨b, fp3, _, rfl, B6, by show Asc (keysR R1); rw [sh]; exact hwf.asc, fun p7 H7 hp7 s7 h7 => ?_⟩
  refine for_go (xs := (keysR R1).map V.int) ?_
  have B7 := B6.same s7
  have h37 := s7 _ _ (s6 _ _ h35)
  have hd7 := s7 _ _ hd6
  have nk : (keysR R1).Nodup := by rw [sh]; exact hwf.nd
  have run : ∀ (r acc : Rows) (kvs' : List (Key × V)) (H8 : Hp) (w5 : Option V) (nx : L2.St → Hp → Prop), (∀ x ∈ r, x ∈ R1) → (∀ x ∈ r, x.1 ∉ keysR acc) → (keysR r).Nodup → acc.length + r.length ≤ 1000 →
      Book K H8 b fp3 ⟨R1, s.fol, (keep s s.R).past⟩ → H8 d' = some (.dK kvs') → RowsAt H8 kvs' acc → (∀ a u, H7 a = some u → a ≠ d' → H8 a = some u) →
      (∀ H9 w5 kvs9, Book K H9 b fp3 ⟨R1, s.fol, (keep s s.R).past⟩ → H9 d' = some (.dK kvs9) → RowsAt H9 kvs9 (acc ++ r.filter fun p => decide (p.1 ∉ underL s.R k)) → (∀ a u, H7 a = some u → a ≠ d' → H9 a = some u) → nx [some (.ref b), some (.int k), some (.ref t), some (.ref p3), some (.ref d'), w5] H9) →
      forRun K p7 ((keysR R1).map V.int) (gName 5) (tIfS (tTest (tOp (rIn K true) (tVar 5) (tVar 3))) (sDPut (tVar 4) (tVar 5) (tDGet (tFld K (tVar 0) "rows") (tVar 5))) tNext)
        { nx := nx, rt := Q } ((keysR r).map V.int) [some (.ref b), some (.int k), some (.ref t), some (.ref p3), some (.ref d'), w5] H8 := by
    have n37 : p3 ≠ d' := ne_kind h37 hd7 (by intro z; cases z)
    have n7d : p7 ≠ d' := ne_kind h7 hd7 (by intro z; cases z)
    intro r
    induction r with
    | nil =>
      intro acc kvs' H8 w5 nx _ _ _ _ B8 hd8 hr8 k8 hn
      refine ⟨SqL.of (k8 _ _ h7 n7d), hn H8 w5 kvs' B8 hd8 ?_ k8⟩
      rw [List.filter_nil, List.append_nil]
      exact hr8
    | cons x r ih =>
      intro acc kvs' H8 w5 nx hx ha nr hlen B8 hd8 hr8 k8 hn
      refine ⟨SqL.of (k8 _ _ h7 n7d), ?_⟩
      have ex : rget R1 x.1 = some x.2 := mem_rget nk (hx x List.mem_cons_self)
      have nr' := List.nodup_cons.mp (show (x.1 :: keysR r).Nodup from nr)
      rw [List.length_cons] at hlen
      obtain ⟨dx, d, l, ds, kvs, pvs, efp, B8'⟩ := B8
      obtain ⟨t2, e1, ht2⟩ := (B8'.rows.get x.1).2 x.2 ex
      walk_at "go"
      refine g_notin (SqL.of (k8 _ _ h37 n37)) rfl (flat_int _) ?_
      walk_at "go"
      rw [in_int]
      refine g_iteN (fun h9 => ?_) (fun h9 => ?_)
      · have ef : (x :: r).filter (fun p => decide (p.1 ∉ underL s.R k)) = x :: r.filter (fun p => decide (p.1 ∉ underL s.R k)) := by
          rw [List.filter_cons, if_pos (decide_eq_true h9)]
        rw [ef] at hn
        walk_at "go"
        refine g_rows c B8' ?_
        walk_at "go"
        refine ⟨d, .ref t2, rfl, by rw [← e1]; exact DGet.k (k := Sum.inl x.1) B8'.dic, ?_⟩
        walk_at "go"
        refine ⟨d', _, rfl, DPut.k (k := Sum.inl x.1) hd8 (sz_lt (by rw [hr8.len]; omega)), ?_⟩
        have hnd : d' ≠ d := fun z => nd3 (by rw [efp, z]; simp)
        have hnds : d' ∉ ds := fun z => nd3 (by rw [efp]; simp [z])
        have kt : ∀ a xs, H8 a = some (.tup xs) → (upd H8 d' (.dK (putK kvs' (Sum.inl x.1) (.ref t2)))) a = some (.tup xs) := fun a xs ha => by
          rw [upd_ne (ne_kind ha hd8 (by intro z; cases z))]
          exact ha
        have B9 : BookAt K (upd H8 d' (.dK (putK kvs' (Sum.inl x.1) (.ref t2)))) b dx d l ds kvs pvs ⟨R1, s.fol, (keep s s.R).past⟩ := by
          refine ⟨?_, ?_, B8'.rows.mono kt, ?_, B8'.past.mono kt fun a ha u hu => ?_, B8'.nd⟩
          · rw [upd_ne (ne_kind B8'.ins hd8 (by intro z; cases z))]
            exact B8'.ins
          · rw [upd_ne (Ne.symm hnd)]
            exact B8'.dic
          · rw [upd_ne (ne_kind B8'.lst hd8 (by intro z; cases z))]
            exact B8'.lst
          · rw [upd_ne (fun z => hnds (by rw [← z]; exact ha))]
            exact hu
        have hnew : rget acc x.1 = none := rget_none.mpr (ha x List.mem_cons_self)
        have hr9 : RowsAt (upd H8 d' (.dK (putK kvs' (Sum.inl x.1) (.ref t2)))) (putK kvs' (Sum.inl x.1) (.ref t2)) (acc ++ [(x.1, x.2)]) := by
          rw [← rput_new hnew]
          exact (hr8.mono kt).put x.1 (kt _ _ ht2)
        refine ih (acc ++ [x]) _ _ _ nx (fun y hy => hx y (List.mem_cons_of_mem _ hy)) (fun y hy => ?_) nr'.2 (by rw [List.length_append, List.length_singleton]; omega) ⟨dx, d, l, ds, kvs, pvs, efp, B9⟩ upd_same hr9 (fun a u ha hne => ?_) (fun H9 w5 kvs9 b1 b2 b3 b4 => ?_)
        · show y.1 ∉ keysR (acc ++ [(x.1, x.2)])
          rw [keys_snoc, List.mem_append, not_or]
          refine ⟨ha y (List.mem_cons_of_mem _ hy), fun z => nr'.1 ?_⟩
          rw [← List.mem_singleton.mp z]
          exact List.mem_map.mpr ⟨y, hy, rfl⟩
        · rw [upd_ne hne]
          exact k8 a u ha hne
        · rw [List.append_assoc] at b3
          exact hn H9 w5 kvs9 b1 b2 b3 b4
      · have ef : (x :: r).filter (fun p => decide (p.1 ∉ underL s.R k)) = r.filter (fun p => decide (p.1 ∉ underL s.R k)) := by
          rw [List.filter_cons, if_neg (by rw [decide_eq_false (fun z => z h9)]; exact Bool.false_ne_true)]
        rw [ef] at hn
        walk_at "go"
        exact ih acc kvs' H8 _ nx (fun y hy => hx y (List.mem_cons_of_mem _ hy)) (fun y hy => ha y (List.mem_cons_of_mem _ hy)) nr'.2 (by omega) ⟨dx, d, l, ds, kvs, pvs, efp, B8'⟩ hd8 hr8 k8 hn
  refine run R1 [] [] H7 _ _ (fun x hx => hx) (fun x _ => by (intro z; cases z)) nk (by rw [List.length_nil]; omega) B7 hd7 .nil (fun a u ha _ => ha) fun H8 w5 kvs8 B8 hd8 hr8 k8 => ?_
  rw [List.nil_append, ← ecR] at hr8
  walk_at "go"
  obtain ⟨dx, d, l, ds, kvs, pvs, efp, B8'⟩ := B8
  refine g_setrows c B8' ?_
  have hnds : d' ∉ ds := fun z => nd3 (by rw [efp]; simp [z])
  have B9 := B8'.setRows hd8 hr8 hnds
  walk_at "go"
  have hbf : b ∈ fp3 := by rw [efp]; simp
  have g3' : Grows fp fp3 H := fun a ha => (g3 a ha).imp id fun z => s12.free z
  -- what was there before the new dict
  have k7 : Keeps fp H H7 := fun a u ha hn => s7 _ _ (s6 _ _ (k5 _ _ (s4 _ _ (k3 _ _ (s12 _ _ ha) hn)) (g3'.out ha hn)))
  have hd0 : H d' = none := by
    cases e : H d' with
    | none => rfl
    | some u =>
      exfalso
      by_cases hf : d' ∈ fp
      · exact nd3 (i3 _ hf)
      · have := s4 _ _ (k3 _ _ (s12 _ _ e) hf)
        have := k5 _ _ this (g3'.out e hf)
        rw [hd'] at this
        cases this
  refine q _ _ ec p3 _ (b :: d' :: l :: ds) ⟨dx, d', l, ds, kvs8, pvs, rfl, B9⟩ (fun a u ha hn => ?_) (fun a ha => ?_) (s1.free hp3) ?_ ?_
  · rw [upd_ne (fun z => g3'.out ha hn (by rw [z]; exact hbf))]
    exact k8 _ _ (k7 a u ha hn) (fun z => by rw [z, hd0] at ha; cases ha)
  · rcases List.mem_cons.mp ha with rfl | ha
    · exact g3' _ hbf
    rcases List.mem_cons.mp ha with rfl | ha
    · exact .inr hd0
    · exact g3' _ (by rw [efp]; exact List.mem_cons_of_mem _ (List.mem_cons_of_mem _ ha))
  · intro z
    rcases List.mem_cons.mp z with rfl | z
    · exact n33 hbf
    rcases List.mem_cons.mp z with rfl | z
    · rw [hd7] at h37; cases h37
    · exact n33 (by rw [efp]; exact List.mem_cons_of_mem _ (List.mem_cons_of_mem _ z))
  · rw [upd_ne (fun z => n33 (by rw [z]; exact hbf))]
    exact k8 _ _ h37 (ne_kind h37 hd7 (by intro z; cases z))
end
end Cor

/-! ## PuB7 -/
namespace Cor
open PySem PySem.Spec PyProof.Rows L2
section
variable {K : PySem.W.Frag} {vs : List V} {H H' : Hp} {Q : VK} {E : XK} {b dx d l : Addr} {ds fp : List Addr} {kvs : List (Key × V)} {pvs : List V} {s : Bk} {R : Rows}
/-! ### undo -/
def sp_Book_undo (K : PySem.W.Frag) : Sp := fun vs H Q E => ∃ b fp s, vs = [.ref b] ∧ Book K H b fp s ∧
  (∀ n s', undoB s = .ok (n, s') → ∀ H' fp', Book K H' b fp' s' → Keeps fp H H' → Grows fp fp' H → Q (.int n) H') ∧
  ∀ x, undoB s = .error x → E (.ref (He.ga K (Str.ofString x))) none H
/-- Book_undo: slots self, before -/
def t_Book_undo (K : PySem.W.Frag) (E : XK) : TS :=
  tSeq (tIfS (tTest (tOp rEq (tCB (rLenL K) (tCons (tFld K (tVar 0) "past") tNil)) (tC (.int 0)))) (tRaise E (He.ga K "Nothing")) tNext) (tSeq (tAsg (tBM0 K "list" rPop (tFld K (tVar 0) "past")) (gName 1)) (tSeq (sFld K (tVar 0) (tOp (rIxT K) (tVar 1) (tC (.int 0))) "following") (tSeq (sFld K (tVar 0) (tOp (rIxT K) (tVar 1) (tC (.int 1))) "rows") (tRet (tCB (rLenL K) (tCons (tFld K (tVar 0) "past") tNil))))))
abbrev n_Book_undo : List Str := ["self", "before"]

theorem len_Book_undo (h : sp_Book_undo K vs H Q E) : vs.length = (["self"] : List Str).length := by
  obtain ⟨_, _, _, rfl, _⟩ := h
  rfl
theorem PastAt.last : ∀ {pvs : List V} {ds : List Addr} {ps : List (Int × Rows)} {p : Int × Rows}, PastAt H pvs ds (ps ++ [p]) →
    ∃ pvs0 ds0 t d kvs, pvs = pvs0 ++ [.ref t] ∧ ds = ds0 ++ [d] ∧ PastAt H pvs0 ds0 ps ∧ H t = some (.tup [.int p.1, .ref d]) ∧ H d = some (.dK kvs) ∧ RowsAt H kvs p.2
  | [v], [d], [], p, h => by
    obtain ⟨⟨t, kvs, rfl, h1, h2, h3⟩, _⟩ := h
    exact ⟨[], [], t, d, kvs, rfl, rfl, True.intro, h1, h2, h3⟩
  | v :: vs, d :: ds, q :: ps, p, h => by
    obtain ⟨h0, h⟩ := h
    obtain ⟨pvs0, ds0, t, d2, kvs, rfl, rfl, h1, h2, h3, h4⟩ := PastAt.last h
    exact ⟨v :: pvs0, d :: ds0, t, d2, kvs, rfl, rfl, ⟨h0, h1⟩, h2, h3, h4⟩
  | _ :: v2 :: vs, [d], [], p, h => h.2.elim
  | [v], _ :: d2 :: ds, [], p, h => h.2.elim
  | _ :: _ :: vs, _ :: _ :: ds, [], p, h => h.2.elim
  | [], [], [], _, h => h.elim
  | [], _ :: _, [], _, h => h.elim
  | _ :: _, [], [], _, h => h.elim
  | [], [], _ :: _, _, h => h.elim
  | [], _ :: _, _ :: _, _, h => h.elim
  | _ :: _, [], _ :: _, _, h => h.elim
theorem pure_Book_undo (K : PySem.W.Frag) (c : BookC K) (vs : List V) (H : Hp) (Q : VK) (E : XK) (h : sp_Book_undo K vs H Q E) : t_Book_undo K E { nx := fun _ H' => Q .non H', rt := Q } (start n_Book_undo vs) H := by
  obtain ⟨b, fp, s, rfl, ⟨dx, d, l, ds, kvs, pvs, rfl, B⟩, q, qe⟩ := h
  unfold t_Book_undo
  walk_at "go"
  refine g_past c B ?_
  walk_at "go"
  refine g_lenL (SqL.of B.lst) ?_
  walk_at "go"
  have hl := B.past.len
  rcases List.eq_nil_or_concat s.past with e0 | ⟨ps, p, ep⟩
  · refine dec_T (by rw [hl, e0] <;> rfl) ?_
    walk_at "go"
    exact qe "Nothing" (by unfold undoB; rw [e0] <;> rfl)
  · have ep : s.past = ps ++ [p] := by rw [ep, List.concat_eq_append]
    have hP := B.past
    rw [ep] at hP
    obtain ⟨pvs0, ds0, t, d2, kvs2, epv, eds, P0, ht, hd2, hr2⟩ := hP.last
    have eu : undoB s = .ok ((ps.length : Int), ⟨p.2, p.1, ps⟩) := by
      unfold undoB
      rw [ep, List.getLast?_concat]
      dsimp only
      rw [List.dropLast_concat]
    refine dec_F (by rw [hl, ep, List.length_append]; simp; omega) ?_
    walk_at "go"
    refine g_past c B ?_
    refine ⟨ty_list (SqL.of B.lst), l, pvs, .ref t, rfl, rfl, B.lst, ?_, ?_⟩
    · rw [epv, List.length_append, List.length_singleton, Nat.add_sub_cancel, List.getElem?_append_right (Nat.le_refl _), Nat.sub_self] <;> rfl
    rw [epv, List.dropLast_concat]
    -- the list is shorter
    obtain ⟨H1, e1⟩ : ∃ H1, H1 = upd H l (.lst pvs0) := ⟨_, rfl⟩
    have kn : ∀ a u, H a = some u → (∀ xs, u ≠ .lst xs) → H1 a = some u := fun a u ha hu => by
      rw [e1, upd_ne (ne_kind ha B.lst (hu _))]
      exact ha
    have kt : ∀ a xs, H a = some (.tup xs) → H1 a = some (.tup xs) := fun a xs ha => kn _ _ ha (by intro ys z; cases z)
    have B1 : BookAt K H1 b dx d l ds0 kvs pvs0 ⟨s.R, s.fol, ps⟩ := by
      refine ⟨kn _ _ B.ins (by intro ys z; cases z), kn _ _ B.dic (by intro ys z; cases z), B.rows.mono kt, by rw [e1]; exact upd_same, P0.mono kt fun a ha u hu => ?_, ?_⟩
      · obtain ⟨kk, hk⟩ := P0.dic a ha
        rw [hk] at hu
        cases hu
        exact kn _ _ hk (by intro ys z; cases z)
      · have nd := B.nd
        rw [eds, ← List.cons_append] at nd
        exact (List.nodup_append.mp nd).1
    rw [← e1]
    have ht1 := kt _ _ ht
    have hd21 : H1 d2 = some (.dK kvs2) := kn _ _ hd2 (by intro ys z; cases z)
    have hr21 := hr2.mono kt
    have hnew : d2 ∉ ds0 := fun z => by
      have nd := (List.nodup_cons.mp B.nd).2
      rw [eds] at nd
      exact (List.nodup_append.mp nd).2.2 d2 z d2 (List.mem_singleton.mpr rfl) rfl
    walk_at "go"
    refine g_ixT (SqT.of ht1) (show atI [V.int p.1, V.ref d2] 0 = some (.int p.1) from rfl) ?_
    walk_at "go"
    refine g_setfol c B1 ?_
    have B2 := B1.setFol p.1
    have kb : ∀ a u, H1 a = some u → (∀ C x fs, u ≠ .ins C x fs) → (upd H1 b (.ins (He.ga K "Book") dx (flds d l p.1))) a = some u := fun a u ha hu => by
      rw [upd_ne (ne_kind ha B1.ins (hu _ _ _))]
      exact ha
    have ht2 := kb _ _ ht1 (by intro C x fs z; cases z)
    walk_at "go"
    refine g_ixT (SqT.of ht2) (show atI [V.int p.1, V.ref d2] 1 = some (.ref d2) from rfl) ?_
    walk_at "go"
    refine g_setrows c B2 ?_
    have B3 := B2.setRows (kb _ _ hd21 (by intro C x fs z; cases z)) (hr21.mono fun a xs ha => kb _ _ ha (by intro C x fs z; cases z)) hnew
    walk_at "go"
    refine g_past c B3 ?_
    walk_at "go"
    refine g_lenL (SqL.of B3.lst) ?_
    have hl0 : pvs0.length = ps.length := P0.len
    rw [hl0]
    refine q _ _ eu _ (b :: d2 :: l :: ds0) ⟨dx, d2, l, ds0, kvs2, pvs0, rfl, B3⟩ (fun a u ha hn => ?_) (fun a ha => .inl ?_)
    · have nb : a ≠ b := fun z => hn (by rw [z]; simp)
      have nl : a ≠ l := fun z => hn (by rw [z]; simp)
      rw [upd_ne nb, upd_ne nb, e1, upd_ne nl]
      exact ha
    · rcases List.mem_cons.mp ha with rfl | ha
      · simp
      rcases List.mem_cons.mp ha with rfl | ha
      · rw [eds]; simp
      rcases List.mem_cons.mp ha with rfl | ha
      · simp
      · rw [eds]; simp [ha]
/-! ### dyed -/
def sp_Book_dyed (K : PySem.W.Frag) : Sp := fun vs H Q E => ∃ b fp s k dye, vs = [.ref b, .int k, .str dye] ∧ Book K H b fp s ∧ Wf s.R ∧ s.R.length ≤ 900 ∧
  (∀ w, rget s.R k = some w → ∀ H', Same H H' → Q (.int (dyedR s.R k dye)) H') ∧ (rget s.R k = none → E (.ref (He.ga K "NoCord")) none H)
/-- Book_dyed: slots self, cord, dye, total, name -/
def t_Book_dyed (K : PySem.W.Frag) (E : XK) : TS :=
  tSeq (tDrop (tMeth (He.ga K "Book") "asked" (sp_Book_asked K) [] E (tVar 0) (tCons (tVar 1) tNil))) (tSeq (tAsg (tC (.int 0)) (gName 3)) (tSeq (tFor (iList K (tMeth (He.ga K "Book") "beneath" (sp_Book_beneath K) [] E0 (tVar 0) (tCons (tVar 1) tNil))) (gName 4) (tIfS (tAnd (tB (tMeth (He.ga K "Book") "is_end" (sp_Book_is_end K) [] E0 (tVar 0) (tCons (tVar 4) tNil))) (tTest (tOp rEq (tOp (rIxT K) (tDGet (tFld K (tVar 0) "rows") (tVar 4)) (tC (.int 1))) (tVar 2)))) (tAsg (tOp rAddI (tVar 3) (tOp (rIxT K) (tDGet (tFld K (tVar 0) "rows") (tVar 4)) (tC (.int 2)))) (gName 3)) tNext)) (tRet (tVar 3))))
abbrev n_Book_dyed : List Str := ["self", "cord", "dye", "total", "name"]

theorem len_Book_dyed (h : sp_Book_dyed K vs H Q E) : vs.length = (["self", "cord", "dye"] : List Str).length := by
  obtain ⟨_, _, _, _, _, rfl, _⟩ := h
  rfl
theorem pure_Book_dyed (K : PySem.W.Frag) (c : BookC K) (vs : List V) (H : Hp) (Q : VK) (E : XK) (h : sp_Book_dyed K vs H Q E) : t_Book_dyed K E { nx := fun _ H' => Q .non H', rt := Q } (start n_Book_dyed vs) H := by
  obtain ⟨b, fp, s, k, dye, rfl, B, hwf, sr, q, qe⟩ := h
  unfold t_Book_dyed
  walk_at "go"
  refine B.meth ?_
  walk_at "go"
  refine ⟨b, fp, s, k, rfl, B, fun w t ew ht => ?_, fun e => qe e⟩
  walk_at "go"
  refine g_forL ?_
  walk_at "go"
  refine B.meth ?_
  walk_at "go"
  refine ⟨b, fp, s, k, rfl, B, hwf, by omega, rget_key ew, fun L p1 H1 nd hm hp1 s1 h1 => ?_⟩
  refine for_go (xs := L.map V.int) ?_
  have run : ∀ (r : List Int) (tot : Int) (w4 : Option V) (H2 : Hp), (∀ x ∈ r, x ∈ keysR s.R) → Same H1 H2 → (∀ H', Same H H' → Q (.int (tot + (r.map (dyeN s.R dye)).sum)) H') →
      forRun K p1 (L.map V.int) (gName 4) (tIfS (tAnd (tB (tMeth (He.ga K "Book") "is_end" (sp_Book_is_end K) [] E0 (tVar 0) (tCons (tVar 4) tNil))) (tTest (tOp rEq (tOp (rIxT K) (tDGet (tFld K (tVar 0) "rows") (tVar 4)) (tC (.int 1))) (tVar 2)))) (tAsg (tOp rAddI (tVar 3) (tOp (rIxT K) (tDGet (tFld K (tVar 0) "rows") (tVar 4)) (tC (.int 2)))) (gName 3)) tNext)
        { nx := tRet (tVar 3) { nx := fun _ H' => Q .non H', rt := Q }, rt := Q } (r.map V.int) [some (.ref b), some (.int k), some (.str dye), some (.int tot), w4] H2 := by
    intro r
    induction r with
    | nil =>
      intro tot w4 H2 _ s2 hq
      refine ⟨SqL.of (s2 _ _ h1), ?_⟩
      walk_at "go"
      have := hq H2 (s1.trans s2)
      rw [List.map_nil, List.sum_nil, Int.add_zero] at this
      exact this
    | cons x r ih =>
      intro tot w4 H2 hk s2 hq
      refine ⟨SqL.of (s2 _ _ h1), ?_⟩
      obtain ⟨z, ez⟩ := key_rget (hk x List.mem_cons_self)
      have hk' : ∀ y ∈ r, y ∈ keysR s.R := fun y hy => hk y (List.mem_cons_of_mem _ hy)
      have en : numR s.R x = z.2.2 := by unfold numR; rw [ez]
      have B2 := (B.same s1).same s2
      walk_at "go"
      refine B2.meth ?_
      walk_at "go"
      refine ⟨b, fp, s, x, z, rfl, B2, hwf.asc, by omega, ez, fun H3 s3 => ?_⟩
      have s23 := s2.trans s3
      have nope : ¬ (hangR s.R (some x) = [] ∧ z.2.1 = dye) → forRun K p1 (L.map V.int) (gName 4) (tIfS (tAnd (tB (tMeth (He.ga K "Book") "is_end" (sp_Book_is_end K) [] E0 (tVar 0) (tCons (tVar 4) tNil))) (tTest (tOp rEq (tOp (rIxT K) (tDGet (tFld K (tVar 0) "rows") (tVar 4)) (tC (.int 1))) (tVar 2)))) (tAsg (tOp rAddI (tVar 3) (tOp (rIxT K) (tDGet (tFld K (tVar 0) "rows") (tVar 4)) (tC (.int 2)))) (gName 3)) tNext)
        { nx := tRet (tVar 3) { nx := fun _ H' => Q .non H', rt := Q }, rt := Q } (r.map V.int) [some (.ref b), some (.int k), some (.str dye), some (.int tot), some (.int x)] H3 := fun hx => by
        refine ih tot _ H3 hk' s23 fun H' sH => ?_
        have e0 : dyeN s.R dye x = 0 := by
          unfold dyeN
          rw [ez]
          exact if_neg fun y => hx ⟨y.1, Option.some.inj y.2⟩
        have := hq H' sH
        rw [List.map_cons, List.sum_cons, e0, Int.zero_add] at this
        exact this
      walk_at "go"
      refine g_iteD (fun h0 => ?_) (fun h0 => ?_)
      · walk_at "go"
        obtain ⟨dx, d, l, ds, kvs, pvs, efp, B3⟩ := B2.same s3
        obtain ⟨t2, e1, ht2⟩ := (B3.rows.get x).2 z ez
        refine g_rows c B3 ?_
        walk_at "go"
        refine ⟨d, .ref t2, rfl, by rw [← e1]; exact DGet.k (k := Sum.inl x) B3.dic, ?_⟩
        walk_at "go"
        refine g_ixT (row_at ht2) (show atI (rowV z) 1 = some (.str z.2.1) from rfl) ?_
        walk_at "go"
        refine g_iteD (fun h3 => ?_) (fun h3 => ?_)
        · walk_at "go"
          refine g_rows c B3 ?_
          walk_at "go"
          refine ⟨d, .ref t2, rfl, by rw [← e1]; exact DGet.k (k := Sum.inl x) B3.dic, ?_⟩
          walk_at "go"
          refine g_ixT (row_at ht2) (show atI (rowV z) 2 = some (.int z.2.2) from rfl) ?_
          walk_at "go"
          refine ih (tot + z.2.2) _ H3 hk' s23 fun H' sH => ?_
          have e0 : dyeN s.R dye x = z.2.2 := by
            unfold dyeN
            rw [ez, en]
            exact if_pos ⟨h0, by rw [Option.map_some, h3]⟩
          have := hq H' sH
          rw [List.map_cons, List.sum_cons, e0, ← Int.add_assoc] at this
          exact this
        · walk_at "go"
          exact nope fun y => h3 y.2
      · walk_at "go"
        exact nope fun y => h0 y.1
  refine run L 0 _ H1 (fun x hx => ((hm x).mp hx).key) (Same.refl _) fun H' sH => ?_
  have ep : (L.map (dyeN s.R dye)).sum = dyedR s.R k dye := perm_sum ((under_perm hwf nd hm).map _)
  rw [Int.zero_add, ep]
  exact q w ew H' sH
end
end Cor

/-! ## PuL -/
/-! ### loops by an invariant; comprehensions of what does not change -/
namespace Cor
open PySem PySem.Spec PyProof.Rows L2
section
variable {K : PySem.W.Frag} {σ : L2.St} {H : Hp} {D : Ends} {g : TG} {tb : TS} {tt : TT} {te : TE} {ws : List Nat} {L : Addr} {Q : VK}
/-- range(n): an invariant by turns -/
theorem forR_run (n : Nat) (I : Nat → L2.St → Hp → Prop)
    (hs : ∀ i σ H (N : L2.St → Hp → Prop), i < n → I i σ H → (∀ σ' H', I (i + 1) σ' H' → N σ' H') → g (.int i) σ H fun σ2 H2 => tb { D with nx := N, ct := N, bk := D.nx } σ2 H2)
    (hd : ∀ σ H, I n σ H → D.nx σ H) (h0 : I 0 σ H) : forRng g tb D n 0 σ H := by
  have key : ∀ m i σ H, i + m = n → I i σ H → forRng g tb D m (i : Int) σ H := by
    intro m
    induction m with
    | zero =>
      intro i σ H e h
      have e : i = n := e
      subst e
      exact hd _ _ h
    | succ m ih =>
      intro i σ H e h
      exact hs i σ H _ (by omega) h fun σ3 H3 r => by have := ih (i + 1) σ3 H3 (by omega) r; rw [Int.natCast_add] at this; exact this
  exact key n 0 σ H (by omega) h0
/-- a list: an invariant by what is done and what is left -/
theorem forL_run {a : Addr} {xs : List V} (I : List V → List V → L2.St → Hp → Prop) (hl : ∀ l r σ H, I l r σ H → SqL K H a xs)
    (hs : ∀ l x r σ H (N : L2.St → Hp → Prop), I l (x :: r) σ H → (∀ σ' H', I (l ++ [x]) r σ' H' → N σ' H') → g x σ H fun σ2 H2 => tb { D with nx := N, ct := N, bk := D.nx } σ2 H2)
    (hd : ∀ σ H, I xs [] σ H → D.nx σ H) (h0 : I [] xs σ H) : forRun K a xs g tb D xs σ H := by
  have key : ∀ r l σ H, l ++ r = xs → I l r σ H → forRun K a xs g tb D r σ H := by
    intro r
    induction r with
    | nil =>
      intro l σ H e h
      rw [List.append_nil] at e
      subst e
      exact ⟨hl _ _ _ _ h, hd _ _ h⟩
    | cons x r ih =>
      intro l σ H e h
      exact ⟨hl _ _ _ _ h, hs l x r σ H _ h fun σ' H' q => ih (l ++ [x]) σ' H' (by rw [← e, List.append_assoc] <;> rfl) q⟩
  exact key xs [] σ H rfl h0
/-- while: an invariant by a measure -/
theorem wh_run {c : TT} (I : Nat → L2.St → Hp → Prop)
    (hs : ∀ m σ H (N : L2.St → Hp → Prop) (P : Bool → Hp → Prop), I m σ H → (∀ m' σ' H', m' < m → I m' σ' H' → N σ' H') → (∀ H1, tb { D with nx := N, ct := N, bk := D.nx } σ H1 → P true H1) → (∀ H1, D.nx σ H1 → P false H1) → c σ H P)
    (m : Nat) (h0 : I m σ H) : tWhile c tb D σ H := by
  refine ⟨I, ⟨m, h0⟩, fun m σ H h => ?_⟩
  exact hs m σ H (fun σ' H' => ∃ m', m' < m ∧ I m' σ' H') _ h (fun m' σ' H' hm q => ⟨m', hm, q⟩) (fun H1 q => iteT ⟨_, fun σ' H' q => q, q⟩) fun H1 q => iteF q
/-- range(n): each turn makes Some item or none -/
theorem lcr_map {H0 : Hp} (f : Nat → Option V) (hL : H0 L = none) : ∀ (n k : Nat) (acc : List V) (H1 : Hp),
    (∀ i, k ≤ i → i < k + n → ∀ H2 (R : Option V → Hp → Prop), Same H0 H2 → (∀ H3, Same H2 H3 → R (f i) H3) → g (.int i) (wipe σ ws) H2 fun σ2 H3 => wipe σ2 ws = wipe σ ws ∧ tt σ2 H3 fun b H4 => if b = true then te σ2 H4 fun y H5 => R (some y) H5 else R none H4) →
    Same H0 H1 → H1 L = some (.lst acc) → acc.length + n ≤ 5000 → (∀ H', Same H0 H' → H' L = some (.lst (acc ++ (List.range' k n).filterMap f)) → Q (.ref L) H') → lcRng g tt te ws σ L Q n (k : Int) H1 := by
  intro n
  induction n with
  | zero =>
    intro k acc H1 _ s1 h1 _ hq
    exact hq H1 s1 (by rw [h1]; simp)
  | succ n ih =>
    intro k acc H1 step s1 h1 hn hq
    have hx : ((k + 1 : Nat) : Int) = (k : Int) + 1 := by omega
    have ek : List.range' k (n + 1) = k :: List.range' (k + 1) n := by rw [List.range'_succ]
    have h := step k (Nat.le_refl _) (by omega) H1 (fun o H5 => match o with
      | some y => ∃ acc, H5 L = some (.lst acc) ∧ acc.length < sizeLine ∧ lcRng g tt te ws σ L Q n ((k : Int) + 1) (upd H5 L (.lst (acc ++ [y])))
      | none => lcRng g tt te ws σ L Q n ((k : Int) + 1) H5) s1 (fun H3 s3 => ?_)
    · exact h
    · cases e : f k with
      | none =>
        show lcRng g tt te ws σ L Q n ((k : Int) + 1) H3
        rw [← hx]
        refine ih (k + 1) acc H3 (fun i hi hi2 => step i (by omega) (by omega)) (s1.trans s3) (s3 _ _ h1) (by omega) fun H' s' h' => hq H' s' ?_
        rw [ek, List.filterMap_cons_none e]
        exact h'
      | some y =>
        refine ⟨acc, s3 _ _ h1, sz_lt (by omega), ?_⟩
        rw [← hx]
        refine ih (k + 1) (acc ++ [y]) _ (fun i hi hi2 => step i (by omega) (by omega)) (same_mut (s1.trans s3) hL) upd_same (by rw [List.length_append, List.length_singleton]; omega) fun H' s' h' => hq H' s' ?_
        rw [ek, List.filterMap_cons_some e, h', List.append_assoc] <;> rfl
/-- the same over a list -/
theorem lcl_map {H0 : Hp} {a : Addr} {all : List V} (f : V → Option V) (hL : H0 L = none) (ha : SqL K H0 a all) : ∀ (r acc : List V) (H1 : Hp),
    (∀ x ∈ r, ∀ H2 (R : Option V → Hp → Prop), Same H0 H2 → (∀ H3, Same H2 H3 → R (f x) H3) → g x (wipe σ ws) H2 fun σ2 H3 => wipe σ2 ws = wipe σ ws ∧ tt σ2 H3 fun b H4 => if b = true then te σ2 H4 fun y H5 => R (some y) H5 else R none H4) →
    Same H0 H1 → H1 L = some (.lst acc) → acc.length + r.length ≤ 5000 → (∀ H', Same H0 H' → H' L = some (.lst (acc ++ r.filterMap f)) → Q (.ref L) H') → lcRun K a all g tt te ws σ L Q r H1 := by
  intro r
  induction r with
  | nil =>
    intro acc H1 _ s1 h1 _ hq
    exact ⟨s1.seq ha, hq H1 s1 (by rw [h1]; simp)⟩
  | cons x r ih =>
    intro acc H1 step s1 h1 hn hq
    rw [List.length_cons] at hn
    refine ⟨s1.seq ha, ?_⟩
    have h := step x List.mem_cons_self H1 (fun o H5 => match o with
      | some y => ∃ acc, H5 L = some (.lst acc) ∧ acc.length < sizeLine ∧ lcRun K a all g tt te ws σ L Q r (upd H5 L (.lst (acc ++ [y])))
      | none => lcRun K a all g tt te ws σ L Q r H5) s1 (fun H3 s3 => ?_)
    · exact h
    · cases e : f x with
      | none =>
        show lcRun K a all g tt te ws σ L Q r H3
        refine ih acc H3 (fun i hi => step i (List.mem_cons_of_mem _ hi)) (s1.trans s3) (s3 _ _ h1) (by omega) fun H' s' h' => hq H' s' ?_
        rw [List.filterMap_cons_none e]
        exact h'
      | some y =>
        refine ⟨acc, s3 _ _ h1, sz_lt (by omega), ?_⟩
        refine ih (acc ++ [y]) _ (fun i hi => step i (List.mem_cons_of_mem _ hi)) (same_mut (s1.trans s3) hL) upd_same (by rw [List.length_append, List.length_singleton]; omega) fun H' s' h' => hq H' s' ?_
        rw [List.filterMap_cons_some e, h', List.append_assoc] <;> rfl
end
theorem rgOk0 {n : Nat} (h : n ≤ 100000) : RgOk 0 (n : Int) := ⟨by decide, by decide, by omega, by omega, by rw [Int.sub_zero, Int.toNat_natCast]; exact Nat.le_trans h (by decide)⟩
theorem rgV0 (n : Nat) : rgV 0 (n : Int) = ((List.range' 0 n).map fun i : Nat => (i : Int)).map V.int := by
  unfold rgV
  rw [Int.sub_zero, Int.toNat_natCast, List.range_eq_range', List.map_map]
  refine List.map_congr_left fun i _ => ?_
  show V.int (0 + (i : Int)) = V.int (i : Int)
  rw [Int.zero_add]
/-! ### the laws' compares -/
section
variable {K : PySem.W.Frag} {vs : List V} {H : Hp} {Q : VK} {E : XK}
theorem g_pop {l : Addr} {xs : List V} {y : V} (h1 : H l = some (.lst (xs ++ [y]))) (h : Q y (upd H l (.lst xs))) : rPop (.ref l) [] H Q := by
  refine ⟨l, xs ++ [y], y, rfl, rfl, h1, ?_, ?_⟩
  · rw [List.length_append, List.length_singleton, Nat.add_sub_cancel, List.getElem?_append_right (Nat.le_refl _), Nat.sub_self] <;> rfl
  · rw [List.dropLast_concat]
    exact h
def sp_law_same (K : PySem.W.Frag) : Sp := fun vs H Q _ => ∃ p q, ∃ L : List Int, vs = [.ref p, .ref q] ∧ H p = some (.lst (L.map V.int)) ∧ SqL K H q (L.map V.int) ∧ L.length ≤ 100000 ∧ Q (.bl true) H
/-- _law_same: slots found, due, k -/
def p0_law_same (K : PySem.W.Frag) (E : XK) : TS :=
  tIfS (tOr (tNot (tB (tCall (sp_law_whole K) [] E0 (tCons (tOp (rIxL K) (tVar 0) (tVar 2)) tNil)))) (tTest (tOp rNe (tOp (rIxL K) (tVar 0) (tVar 2)) (tOp (rIxL K) (tVar 1) (tVar 2))))) (tRet (tC (.bl false))) tNext
def p1_law_same (K : PySem.W.Frag) (E : XK) : TS :=
  tSeq (tFor (iRng1 (tCons (tCB (rLenL K) (tCons (tVar 1) tNil)) tNil)) (gName 2) (p0_law_same K E)) (tRet (tC (.bl true)))
def t_law_same (K : PySem.W.Frag) (E : XK) : TS :=
  tSeq (tIfS (tOr (tNot (tB (tCB (rIsi K) (tCons (tVar 0) (tCons (tC (.ty "list")) tNil))))) (tTest (tOp rNe (tCB (rLenL K) (tCons (tVar 0) tNil)) (tCB (rLenL K) (tCons (tVar 1) tNil))))) (tRet (tC (.bl false))) tNext) (p1_law_same K E)
abbrev n_law_same : List Str := ["found", "due", "k"]

theorem len_law_same (h : sp_law_same K vs H Q E) : vs.length = (["found", "due"] : List Str).length := by
  obtain ⟨_, _, _, rfl, _⟩ := h
  rfl
theorem pure_law_same (K : PySem.W.Frag) (vs : List V) (H : Hp) (Q : VK) (E : XK) (h : sp_law_same K vs H Q E) : t_law_same K E { nx := fun _ H' => Q .non H', rt := Q } (start n_law_same vs) H := by
  obtain ⟨p, r, L, rfl, hp, hr, hl, q⟩ := h
  have hp' : SqL K H p (L.map V.int) := SqL.of hp
  unfold t_law_same
  walk_at "go"
  refine g_isi (b := true) (.base (.lst hp)) (show L2.kitB "list" "list" = some true by decide +kernel) ?_
  walk_at "go"
  refine g_lenL hp' ?_
  walk_at "go"
  refine g_lenL hr ?_
  walk_at "go"
  refine dec_NT rfl ?_
  walk_at "go"
  unfold p1_law_same
  walk_at "go"
  refine g_forR1 ?_
  walk_at "go"
  refine g_lenL hr ?_
  walk_at "go"
  rw [List.length_map]
  refine rng1_of (by omega) (by omega) ?_
  rw [Int.toNat_natCast]
  have run : ∀ (m i : Nat) (w : Option V), i + m = L.length → forRng (gName 2) (p0_law_same K E) { nx := tRet (tC (.bl true)) { nx := fun _ H' => Q .non H', rt := Q }, rt := Q } m (i : Int) [some (.ref p), some (.ref r), w] H := by
    intro m
    induction m with
    | zero =>
      intro i w e
      walk_at "go"
      exact q
    | succ m ih =>
      intro i w e
      have hi : atI (L.map V.int) (i : Int) = some (.int (cell L i)) := atI_map (by omega) (by omega)
      walk_at "go"
      unfold p0_law_same
      walk_at "go"
      refine g_ixL hp' hi ?_
      walk_at "go"
      refine ⟨_, rfl, ?_⟩
      walk_at "go"
      refine g_ixL hp' hi ?_
      walk_at "go"
      refine g_ixL hr hi ?_
      walk_at "go"
      refine dec_NT rfl ?_
      walk_at "go"
      have := ih (i + 1) (some (.int i)) (by omega)
      rw [Int.natCast_add] at this
      exact this
  exact run L.length 0 _ (by omega)
def sp_law_over_is (K : PySem.W.Frag) : Sp := fun vs H Q _ => ∃ o, vs = [oV o, oV o] ∧ Q (.bl true) H
/-- _law_over_is: slots found, due -/
def p0_law_over_is (K : PySem.W.Frag) (E : XK) : TS :=
  tRet (tAndV (tCall (sp_law_whole K) [] E0 (tCons (tVar 0) tNil)) (tOp rEq (tVar 0) (tVar 1)))
def t_law_over_is (K : PySem.W.Frag) (E : XK) : TS :=
  tSeq (tIfS (tTest (tOp rIsN (tVar 1) (tC .non))) (tRet (tOp rIsN (tVar 0) (tC .non))) tNext) (p0_law_over_is K E)
abbrev n_law_over_is : List Str := ["found", "due"]

theorem len_law_over_is (h : sp_law_over_is K vs H Q E) : vs.length = (["found", "due"] : List Str).length := by
  obtain ⟨_, rfl, _⟩ := h
  rfl
theorem pure_law_over_is (K : PySem.W.Frag) (vs : List V) (H : Hp) (Q : VK) (E : XK) (h : sp_law_over_is K vs H Q E) : t_law_over_is K E { nx := fun _ H' => Q .non H', rt := Q } (start n_law_over_is vs) H := by
  obtain ⟨o, rfl, q⟩ := h
  unfold t_law_over_is
  cases o with
  | none =>
    walk_at "go"
    exact q
  | some i =>
    walk_at "go"
    try unfold p0_law_over_is
    walk_at "go"
    refine ⟨i, rfl, ?_⟩
    walk_at "go"
    rw [decide_eq_true rfl]
    exact q
def abc : Str := "abcdefghijklmnopqrstuvwxyz"
theorem abc_len : abc.length = 26 := by decide +kernel
def dyeS (c : Int) : Str := ⟨#[abc.cps.toList.getD (c % 26).toNat 0]⟩
theorem atI_abc (c : Int) : atI abc.cps.toList (c % 26) = some (abc.cps.toList.getD (c % 26).toNat 0) := by
  have hl : abc.cps.toList.length = 26 := by rw [Array.length_toList]; exact abc_len
  obtain ⟨j, hj⟩ : ∃ j : Nat, c % 26 = (j : Int) := ⟨(c % 26).toNat, by omega⟩
  have hj2 : j < abc.cps.toList.length := by omega
  rw [hj]
  refine atI_nat ?_
  rw [Int.toNat_natCast, List.getD_eq_getElem?_getD, List.getElem?_eq_getElem hj2] <;> rfl
def sp_law_dye (K : PySem.W.Frag) : Sp := fun vs H Q _ => ∃ c, vs = [.int c] ∧ Q (.str (dyeS c)) H
/-- _law_dye: slots cell -/
def t_law_dye (K : PySem.W.Frag) (E : XK) : TS :=
  tRet (tOp rIxS (tC (.str "abcdefghijklmnopqrstuvwxyz")) (tOp rModI (tVar 0) (tC (.int 26))))
abbrev n_law_dye : List Str := ["cell"]

theorem len_law_dye (h : sp_law_dye K vs H Q E) : vs.length = (["cell"] : List Str).length := by
  obtain ⟨_, rfl, _⟩ := h
  rfl
theorem pure_law_dye (K : PySem.W.Frag) (vs : List V) (H : Hp) (Q : VK) (E : XK) (h : sp_law_dye K vs H Q E) : t_law_dye K E { nx := fun _ H' => Q .non H', rt := Q } (start n_law_dye vs) H := by
  obtain ⟨c, rfl, q⟩ := h
  unfold t_law_dye
  walk_at "go"
  exact g_ixS (show abc.length ≤ 100000 by rw [abc_len]; decide) (atI_abc c) q
end
end Cor

/-! ## PuM -/
/-! ### books beside a law's own lists -/
namespace Cor
open PySem PySem.Spec PyProof.Rows L2
section
variable {K : PySem.W.Frag} {vs : List V} {H H' : Hp} {Q : VK} {E : XK} {b a : Addr} {fp fp' : List Addr} {s : Bk} {xs : List V}
/-- a list to be read that is no part of a book -/
def SqOff (K : PySem.W.Frag) (H : Hp) (fp : List Addr) (a : Addr) (xs : List V) : Prop := (Rd H a (.lst xs) ∧ a ∉ fp) ∨
    ∃ (o : Obj) (its : Array Value) (n : Nat), K.lookup a = some o ∧ o.cls = .type "list" ∧ o.dict = none ∧ o.data = .seq its n ∧ its.size ≤ sizeLine ∧ Vals xs its.toList
theorem SqOff.sq (h : SqOff K H fp a xs) : SqL K H a xs := h.imp (fun h => h.1) id
theorem SqOff.of (h : SqL K H a xs) (hf : ∀ x ∈ fp, H x = none) : SqOff K H fp a xs := by
  rcases h with h | h
  · refine .inl ⟨h, fun z => ?_⟩
    have e := hf a z
    rcases h with h | ⟨o, h⟩ <;> (rw [e] at h; cases h)
  · exact .inr h
theorem SqOff.off (h : H a = some (.lst xs)) (ha : a ∉ fp) : SqOff K H fp a xs := .inl ⟨.inl h, ha⟩
theorem SqOff.same (h : SqOff K H fp a xs) (e : Same H H') : SqOff K H' fp a xs := by
  rcases h with ⟨h, hf⟩ | h
  · refine .inl ⟨?_, hf⟩
    rcases h with h | ⟨o, h⟩
    · exact .inl (e _ _ h)
    · exact .inr ⟨o, e _ _ h⟩
  · exact .inr h
theorem SqOff.keeps (h : SqOff K H fp a xs) (k : Keeps fp H H') (g : Grows fp fp' H) : SqOff K H' fp' a xs := by
  rcases h with ⟨h, hf⟩ | h
  · rcases h with h | ⟨o, h⟩
    · exact .inl ⟨.inl (k _ _ h hf), g.out h hf⟩
    · exact .inl ⟨.inr ⟨o, k _ _ h hf⟩, g.out h hf⟩
  · exact .inr h
theorem SqOff.move {F F' : List Addr} (h : SqOff K H F a xs) (k : Keeps fp H H') (hs : ∀ x ∈ fp, x ∈ F) (hF : ∀ x ∈ F', x ∈ F ∨ H x = none) : SqOff K H' F' a xs := by
  rcases h with ⟨h, hf⟩ | h
  · have hn : a ∉ fp := fun z => hf (hs a z)
    have hF' : ∀ u, H a = some u → a ∉ F' := fun u hu z => by
      rcases hF a z with y | y
      · exact hf y
      · rw [y] at hu; cases hu
    rcases h with h | ⟨o, h⟩
    · exact .inl ⟨.inl (k _ _ h hn), hF' _ h⟩
    · exact .inl ⟨.inr ⟨o, k _ _ h hn⟩, hF' _ h⟩
  · exact .inr h
theorem SqOff.upd {F : List Addr} {p : Addr} {o : HO} (h : SqOff K H F a xs) (hp : p ∈ F) : SqOff K (upd H p o) F a xs := by
  rcases h with ⟨h, hf⟩ | h
  · have hn : a ≠ p := fun z => hf (by rw [z]; exact hp)
    rcases h with h | ⟨o, h⟩
    · exact .inl ⟨.inl (by rw [upd_ne hn]; exact h), hf⟩
    · exact .inl ⟨.inr ⟨o, by rw [upd_ne hn]; exact h⟩, hf⟩
  · exact .inr h
/-- a list that is no part of it may change -/
theorem Book.updL {p : Addr} {ys : List V} {o : HO} (B : Book K H b fp s) (h : H p = some (.lst ys)) (hp : p ∉ fp) : Book K (upd H p o) b fp s := by
  obtain ⟨dx, d, l, ds, kvs, pvs, rfl, h1, h2, h3, h4, h5, h6⟩ := B
  have kn : ∀ y u, H y = some u → y ≠ p → (L2.upd H p o) y = some u := fun y u hy z => by
    rw [upd_ne z]
    exact hy
  have kt : ∀ y xs, H y = some (.tup xs) → (L2.upd H p o) y = some (.tup xs) := fun y xs hy => kn y _ hy (ne_kind hy h (by intro z; cases z))
  have kf : ∀ y ∈ b :: d :: l :: ds, y ≠ p := fun y hy z => hp (by rw [← z]; exact hy)
  exact ⟨dx, d, l, ds, kvs, pvs, rfl, kn _ _ h1 (kf _ (by simp)), kn _ _ h2 (kf _ (by simp)), h3.mono kt, kn _ _ h4 (kf _ (by simp)), h5.mono kt (fun y hy u hu => kn _ _ hu (kf _ (by simp [hy]))), h6⟩
/-- another book stays -/
theorem Book.keepB {b2 : Addr} {fp2 : List Addr} {s2 : Bk} (B2 : Book K H b2 fp2 s2) (B : Book K H b fp s) (k : Keeps fp H H') (dj : ∀ x ∈ fp2, x ∉ fp) : Book K H' b2 fp2 s2 := by
  obtain ⟨dx, d, l, ds, kvs, pvs, rfl, h1, h2, h3, h4, h5, h6⟩ := B2
  have kt : ∀ t xs, H t = some (.tup xs) → H' t = some (.tup xs) := fun t xs h => B.keepT k h
  exact ⟨dx, d, l, ds, kvs, pvs, rfl, k _ _ h1 (dj _ (by simp)), k _ _ h2 (dj _ (by simp)), h3.mono kt, k _ _ h4 (dj _ (by simp)), h5.mono kt fun x hx u hu => k _ _ hu (dj _ (by simp [hx])), h6⟩
/-- Book() -/
theorem g_newBook {σ : L2.St} (h : ∀ x H' fp, Book K H' x fp ⟨[], 0, []⟩ → Same H H' → (∀ c ∈ fp, H c = none) → Q (.ref x) H') : tMake (He.ga K "Book") (sp_Book___init__ K) [] E0 tNil σ H Q := by
  intro x dx hx hdx hne
  refine ⟨x, dx, rfl, upd_same, fun H' fp B k g => ⟨rfl, h x H' fp B (fun c u hc => ?_) fun c hc => ?_⟩⟩
  · have n1 : c ≠ x := ne_of_none hc hx
    have n2 : c ≠ dx := ne_of_none hc hdx
    exact k c u (by rw [upd_ne n1, upd_ne n2]; exact hc) n1
  · rcases g c hc with rfl | z
    · exact hx
    · by_cases n1 : c = x
      · rw [n1]; exact hx
      · by_cases n2 : c = dx
        · rw [n2]; exact hdx
        · rw [upd_ne n1, upd_ne n2] at z
          exact z
theorem book_ok0 : OkB (⟨[], 0, []⟩ : Bk) := ⟨⟨⟨List.Pairwise.nil, fun k hk => (by cases hk)⟩, fun k hk => (by cases hk)⟩, fun p hp => (by cases hp), by decide, fun p hp => (by cases hp)⟩
end
/-! ### rows by places -/
section
variable {δ : Type}
def mkF : Int → List (RwD δ) → RowsD δ
  | _, [] => []
  | k, w :: r => (k, w) :: mkF (k + 1) r
theorem mkF_len : ∀ (k : Int) (l : List (RwD δ)), (mkF k l).length = l.length
  | _, [] => rfl
  | k, w :: r => by
    show (mkF (k + 1) r).length + 1 = _
    rw [mkF_len (k + 1) r] <;> rfl
theorem mkF_snoc (w : RwD δ) : ∀ (k : Int) (l : List (RwD δ)), mkF k (l ++ [w]) = mkF k l ++ [(k + l.length, w)]
  | k, [] => by
    show [(k, w)] = [(k + 0, w)]
    rw [Int.add_zero]
  | k, x :: r => by
    show (k, x) :: mkF (k + 1) (r ++ [w]) = (k, x) :: (mkF (k + 1) r ++ [(k + ((r.length + 1 : Nat) : Int), w)])
    rw [mkF_snoc w (k + 1) r]
    have e : k + 1 + (r.length : Int) = k + ((r.length + 1 : Nat) : Int) := by omega
    rw [e]
theorem rget_mkF : ∀ (k : Int) (l : List (RwD δ)) (j : Int), rget (mkF k l) j = if k ≤ j then l[(j - k).toNat]? else none
  | k, [], j => by
    show none = _
    split <;> rfl
  | k, w :: r, j => by
    show rget ((k, w) :: mkF (k + 1) r) j = _
    by_cases e : k = j
    · subst e
      rw [rget_pos rfl, if_pos (Int.le_refl _), Int.sub_self] <;> rfl
    · rw [rget_neg e, rget_mkF (k + 1) r j]
      by_cases h : k ≤ j
      · have e2 : (j - k).toNat = (j - (k + 1)).toNat + 1 := by omega
        rw [if_pos h, if_pos (by omega), e2, List.getElem?_cons_succ]
      · rw [if_neg h, if_neg (by omega)]
theorem keys_mkF : ∀ (k : Nat) (l : List (RwD δ)), keysR (mkF (k : Int) l) = (List.range' k l.length).map fun i : Nat => (i : Int)
  | k, [] => rfl
  | k, w :: r => by
    show (k : Int) :: keysR (mkF ((k : Int) + 1) r) = _
    have := keys_mkF (k + 1) r
    rw [Int.natCast_add] at this
    have this : keysR (mkF ((k : Int) + 1) r) = _ := this
    rw [this, List.length_cons, List.range'_succ, List.map_cons]
theorem fm_mkF {f : Nat → Option V} {G : Int → RwD δ → Option V} : ∀ (k : Nat) (l : List (RwD δ)), (∀ i w, l[i]? = some w → f (k + i) = G ((k + i : Nat) : Int) w) →
    (List.range' k l.length).filterMap f = (mkF (k : Int) l).filterMap fun p => G p.1 p.2
  | k, [], _ => rfl
  | k, w :: r, h => by
    show _ = (((k : Int), w) :: mkF ((k : Int) + 1) r).filterMap _
    have ih := fm_mkF (f := f) (G := G) (k + 1) r fun i z hz => by
      have := h (i + 1) z (by rw [List.getElem?_cons_succ]; exact hz)
      have e : k + (i + 1) = k + 1 + i := by omega
      rw [e] at this
      exact this
    rw [Int.natCast_add] at ih
    have ih : _ = (mkF ((k : Int) + 1) r).filterMap (fun p => G p.1 p.2) := ih
    rw [List.length_cons, List.range'_succ, List.filterMap_cons, List.filterMap_cons, ih]
    have h0 := h 0 w rfl
    rw [Nat.add_zero] at h0
    rw [h0]
theorem hang_fm (R : RowsD δ) (o : Option Int) : (hangR R o).map V.int = R.filterMap fun p => if p.2.1 = o then some (.int p.1) else none := by
  unfold hangR
  induction R with
  | nil => rfl
  | cons p r ih =>
    rw [List.filter_cons, List.filterMap_cons]
    by_cases h : p.2.1 = o
    · rw [if_pos (decide_eq_true h), if_pos h, List.map_cons, List.map_cons, ih]
    · rw [if_neg (by rw [decide_eq_false h]; exact Bool.false_ne_true), if_neg h, ih]
theorem keys_fm (R : RowsD δ) : (keysR R).map V.int = R.filterMap fun p => some (.int p.1) := by
  unfold keysR
  induction R with
  | nil => rfl
  | cons p r ih => rw [List.map_cons, List.map_cons, List.filterMap_cons, ih]
end
end Cor

/-! ## MOwn -/
/-! ### numbers as sums of what was laid beneath -/
namespace Cor
/-! sums along a list -/
def ls (l : List Int) (g : Int → Int) : Int := (l.map g).sum
theorem ls_nil (g : Int → Int) : ls [] g = 0 := rfl
theorem ls_cons (x : Int) (l : List Int) (g : Int → Int) : ls (x :: l) g = g x + ls l g := by
  unfold ls
  rw [List.map_cons, List.sum_cons]
theorem ls_append (l m : List Int) (g : Int → Int) : ls (l ++ m) g = ls l g + ls m g := by
  unfold ls
  rw [List.map_append, List.sum_append]
theorem ls_congr {l : List Int} {g h : Int → Int} (e : ∀ x ∈ l, g x = h x) : ls l g = ls l h := by
  unfold ls
  rw [List.map_congr_left e]
theorem ls_zero {l : List Int} {g : Int → Int} (e : ∀ x ∈ l, g x = 0) : ls l g = 0 := by
  induction l with
  | nil => rfl
  | cons x r ih => rw [ls_cons, e x List.mem_cons_self, ih fun y hy => e y (List.mem_cons_of_mem _ hy)] <;> rfl
theorem ls_add (l : List Int) (g h : Int → Int) : ls l (fun x => g x + h x) = ls l g + ls l h := by
  induction l with
  | nil => rfl
  | cons x r ih => rw [ls_cons, ls_cons, ls_cons, ih]; omega
theorem ls_sub (l : List Int) (g h : Int → Int) : ls l (fun x => g x - h x) = ls l g - ls l h := by
  induction l with
  | nil => rfl
  | cons x r ih => rw [ls_cons, ls_cons, ls_cons, ih]; omega
theorem ls_nonneg {l : List Int} {g : Int → Int} (e : ∀ x ∈ l, 0 ≤ g x) : 0 ≤ ls l g := by
  induction l with
  | nil => exact Int.le_refl _
  | cons x r ih =>
    have h1 := e x List.mem_cons_self
    have h2 := ih fun y hy => e y (List.mem_cons_of_mem _ hy)
    rw [ls_cons]
    omega
theorem ls_mono {l : List Int} {g h : Int → Int} (e : ∀ x ∈ l, g x ≤ h x) : ls l g ≤ ls l h := by
  induction l with
  | nil => exact Int.le_refl _
  | cons x r ih =>
    have h1 := e x List.mem_cons_self
    have h2 := ih fun y hy => e y (List.mem_cons_of_mem _ hy)
    rw [ls_cons, ls_cons]
    omega
theorem ls_one {l : List Int} (nd : l.Nodup) (c v : Int) : ls l (fun y => if y = c then v else 0) = if c ∈ l then v else 0 := by
  induction l with
  | nil => rw [ls_nil, if_neg (by simp)]
  | cons x r ih =>
    have nd' := List.nodup_cons.mp nd
    rw [ls_cons, ih nd'.2]
    by_cases q : x = c
    · subst q
      rw [if_pos rfl, if_neg nd'.1, if_pos List.mem_cons_self, Int.add_zero]
    · rw [if_neg q, Int.zero_add]
      by_cases m : c ∈ r
      · rw [if_pos m, if_pos (List.mem_cons_of_mem _ m)]
      · rw [if_neg m, if_neg (fun z => (List.mem_cons.mp z).elim (fun y => q y.symm) m)]
theorem ls_swap (l m : List Int) (f : Int → Int → Int) : ls l (fun x => ls m (f x)) = ls m (fun y => ls l (fun x => f x y)) := by
  induction l with
  | nil => rw [ls_nil, ls_zero fun _ _ => ls_nil _]
  | cons x r ih =>
    rw [ls_cons, ih, ← ls_add]
    exact ls_congr fun y _ => (ls_cons x r (fun x => f x y)).symm
theorem ls_filter (l : List Int) (P : Int → Bool) (g : Int → Int) : ls (l.filter P) g = ls l (fun y => if P y = true then g y else 0) := by
  induction l with
  | nil => rfl
  | cons x r ih =>
    rw [List.filter_cons, ls_cons]
    split
    · rw [ls_cons, ih]
    · rw [ih, Int.zero_add]
theorem ls_perm {l m : List Int} (h : l.Perm m) (g : Int → Int) : ls l g = ls m g := perm_sum (h.map g)
section
variable {δ : Type}
/-- an end stands on no other cord's line -/
theorem end_line {R : RowsD δ} (h : Wf R) {c : Int} (he : hangR R (some c) = []) {o : Option Int} {L : List Int} (hl : Line R o L) : c ∈ L → o = some c := by
  induction hl with
  | nil => intro hc; cases hc
  | @cons y w L e hl ih =>
    intro hc
    rcases List.mem_cons.mp hc with rfl | hc
    · rfl
    · have := ih hc
      have hy : y ∈ hangR R (some c) := (mem_hang h.nd).mpr ⟨w, e, this⟩
      rw [he] at hy
      cases hy
structure Own (R : RowsD δ) (own : Int → Int) : Prop where
  a : ∀ x ∈ keysR R, numR R x = ls (keysR R) fun y => if x ∈ lineR R (some y) then own y else 0
  b : ∀ x ∈ keysR R, hangR R (some x) ≠ [] → own x = 0
structure Good (R : RowsD δ) : Prop where
  own : ∃ own, Own R own
  lo : ∀ x ∈ keysR R, 0 ≤ numR R x ∧ numR R x ≤ 999
theorem Own.end_ {R : RowsD δ} {own : Int → Int} (O : Own R own) (h : Wf R) {c : Int} (hc : c ∈ keysR R) (he : hangR R (some c) = []) : numR R c = own c := by
  rw [O.a c hc]
  have e : ls (keysR R) (fun y => if c ∈ lineR R (some y) then own y else 0) = ls (keysR R) (fun y => if y = c then own c else 0) := ls_congr fun y hy => by
    obtain ⟨w, ew⟩ := key_rget hy
    have hl := h.of ew
    by_cases q : y = c
    · subst q
      rw [if_pos hl.head, if_pos rfl]
    · rw [if_neg q, if_neg]
      intro hm
      exact q (Option.some.inj (end_line h he hl hm))
  rw [e, ls_one h.nd, if_pos hc]
theorem Own.nonneg {R : RowsD δ} {own : Int → Int} (O : Own R own) (h : Wf R) (hlo : ∀ x ∈ keysR R, 0 ≤ numR R x ∧ numR R x ≤ 999) {c : Int} (hc : c ∈ keysR R) : 0 ≤ own c := by
  by_cases he : hangR R (some c) = []
  · rw [← O.end_ h hc he]
    exact (hlo c hc).1
  · rw [O.b c hc he]
    exact Int.le_refl _
theorem Own.up {R : RowsD δ} {own : Int → Int} (O : Own R own) (h : Wf R) (hlo : ∀ x ∈ keysR R, 0 ≤ numR R x ∧ numR R x ≤ 999) {c x : Int} {L : List Int} (hL : Line R (some c) L) (hx : x ∈ L) : numR R c ≤ numR R x := by
  have hc := hL.keys c hL.head
  rw [O.a c hc, O.a x (hL.keys x hx)]
  refine ls_mono fun y hy => ?_
  obtain ⟨w, ew⟩ := key_rget hy
  have hl := h.of ew
  have h0 := O.nonneg h hlo hy
  by_cases q : c ∈ lineR R (some y)
  · rw [if_pos q, if_pos]
    · exact Int.le_refl _
    · exact hl.trans q hL hx
  · rw [if_neg q]
    split
    · exact h0
    · exact Int.le_refl _
/-! hanging -/
theorem line_snoc {R : RowsD δ} (h : Wf R) {f : Int} {w : RwD δ} (hf : rget R f = none) {y : Int} (hy : y ∈ keysR R) : lineR (R ++ [(f, w)]) (some y) = lineR R (some y) := by
  obtain ⟨z, ez⟩ := key_rget hy
  exact ((h.of ez).snoc hf).eq
theorem hang_snoc (R : RowsD δ) (f : Int) (w : RwD δ) (o : Option Int) : hangR (R ++ [(f, w)]) o = hangR R o ++ if w.1 = o then [f] else [] := by
  unfold hangR
  rw [List.filter_append, List.map_append]
  congr 1
  by_cases q : w.1 = o
  · rw [if_pos q, List.filter_cons, if_pos (decide_eq_true q)] <;> rfl
  · rw [if_neg q, List.filter_cons, if_neg (by rw [decide_eq_false q]; exact Bool.false_ne_true)] <;> rfl
theorem num_snoc {R : RowsD δ} {f : Int} {w : RwD δ} (hf : rget R f = none) (x : Int) : numR (R ++ [(f, w)]) x = if x = f then w.2.2 else numR R x := by
  unfold numR
  rw [rget_snoc f x w R hf]
  by_cases q : x = f
  · rw [if_pos q, if_pos q]
  · rw [if_neg q, if_neg q]
abbrev LoR (R : RowsD δ) : Prop := ∀ x ∈ keysR R, 0 ≤ numR R x ∧ numR R x ≤ 999
theorem own_hang {s : Bs δ} (ok : OkB s) {own : Int → Int} (O : Own s.R own) (g : LoR s.R) {o : Option Int} {d : δ} {n : Int} {s' : Bs δ} (e : hangB s o d = .ok (n, s')) : Own s'.R (fun y => if y = s.fol then 0 else own y) ∧ LoR s'.R := by
  obtain ⟨_, _, rfl⟩ := hangB_ok ok e
  have h := ok.now.wf
  have hf := ok.now.new
  have hfk : s.fol ∉ keysR s.R := rget_none.mp hf
  -- what the place says
  have hplace : ∀ c, o = some c → ∃ w, rget s.R c = some w ∧ (hangR s.R (some c) = [] → w.2.2 = 0) := by
    rintro c rfl
    unfold hangB at e
    dsimp only at e
    cases hw : rget s.R c with
    | none => rw [hw] at e; cases e
    | some w =>
      rw [hw] at e
      dsimp only at e
      split at e
      · cases e
      · rename_i hn
        exact ⟨w, rfl, fun he => Decidable.of_not_not fun z => hn ⟨he, z⟩⟩
  have ek : keysR (hangOk s o d).R = keysR s.R ++ [s.fol] := keys_snoc _ _ _
  have hnl : ∀ y ∈ keysR s.R, s.fol ∉ lineR s.R (some y) := fun y hy hm => by
    obtain ⟨z, ez⟩ := key_rget hy
    exact hfk ((h.of ez).keys _ hm)
  refine ⟨⟨?_, ?_⟩, ?_⟩
  · intro x hx
    rw [ek] at hx ⊢
    rw [ls_append, ls_cons, ls_nil, if_pos rfl]
    show numR (s.R ++ [(s.fol, (o, d, 0))]) x = ls (keysR s.R) (fun y => if x ∈ lineR (s.R ++ [(s.fol, (o, d, 0))]) (some y) then (if y = s.fol then 0 else own y) else 0) + ((if _ then 0 else 0) + 0)
    have e1 : ls (keysR s.R) (fun y => if x ∈ lineR (s.R ++ [(s.fol, (o, d, 0))]) (some y) then (if y = s.fol then 0 else own y) else 0) = ls (keysR s.R) (fun y => if x ∈ lineR s.R (some y) then own y else 0) := ls_congr fun y hy => by
      rw [line_snoc h hf hy, if_neg (fun z : y = s.fol => hfk (by rw [← z]; exact hy))]
    rw [e1, num_snoc hf]
    have e2 : ∀ (P : Prop) [Decidable P], ((if P then (0 : Int) else 0) + 0) = 0 := fun P _ => by split <;> rfl
    rw [e2, Int.add_zero]
    rcases List.mem_append.mp hx with hx | hx
    · rw [if_neg (fun z : x = s.fol => hfk (by rw [← z]; exact hx))]
      exact O.a x hx
    · rw [List.mem_singleton.mp hx, if_pos rfl]
      exact (ls_zero fun y hy => if_neg (hnl y hy)).symm
  · intro x hx hne
    show (if x = s.fol then 0 else own x) = 0
    rw [ek] at hx
    rcases List.mem_append.mp hx with hx | hx
    · rw [if_neg (fun z : x = s.fol => hfk (by rw [← z]; exact hx))]
      have hne' : hangR (s.R ++ [(s.fol, (o, d, 0))]) (some x) ≠ [] := hne
      rw [hang_snoc] at hne'
      by_cases he : hangR s.R (some x) = []
      · by_cases q : o = some x
        · obtain ⟨w, ew, hz⟩ := hplace x q
          have := O.end_ h hx he
          rw [numR_some ew, hz he] at this
          exact this.symm
        · rw [he, if_neg q] at hne'
          exact absurd rfl hne'
      · exact O.b x hx he
    · rw [List.mem_singleton.mp hx, if_pos rfl]
  · intro x hx
    rw [ek] at hx
    show 0 ≤ numR (s.R ++ [(s.fol, (o, d, 0))]) x ∧ numR (s.R ++ [(s.fol, (o, d, 0))]) x ≤ 999
    rw [num_snoc hf]
    rcases List.mem_append.mp hx with hx | hx
    · rw [if_neg (fun z : x = s.fol => hfk (by rw [← z]; exact hx))]
      exact g x hx
    · rw [List.mem_singleton.mp hx, if_pos rfl]
      exact ⟨Int.le_refl _, by show (0 : Int) ≤ 999; decide⟩
theorem Good.hang {s : Bs δ} (ok : OkB s) (g : Good s.R) {o : Option Int} {d : δ} {n : Int} {s' : Bs δ} (e : hangB s o d = .ok (n, s')) : Good s'.R := by
  obtain ⟨own, O⟩ := g.own
  obtain ⟨a, b⟩ := own_hang ok O g.lo e
  exact ⟨⟨_, a⟩, b⟩
/-! laying -/
theorem line_shape {R R' : RowsD δ} (e : shape R = shape R') (h : Wf R) {y : Int} (hy : y ∈ keysR R) : lineR R' (some y) = lineR R (some y) := by
  obtain ⟨z, ez⟩ := key_rget hy
  exact (shape_line e (h.of ez)).eq
theorem own_lay {s : Bs δ} (ok : OkB s) {own : Int → Int} (O : Own s.R own) (g : LoR s.R) {c a n : Int} {s' : Bs δ} (e : layB s c a = .ok (n, s')) : Own s'.R (fun y => if y = c then own c + a else own y) ∧ LoR s'.R := by
  obtain ⟨_, hx, _, rfl⟩ := layB_ok ok e
  obtain ⟨⟨w, ew⟩, he, hr⟩ := layX_ok hx
  have h := ok.now.wf
  have hL := h.of ew
  obtain ⟨L, eL⟩ : ∃ L, L = lineR s.R (some c) := ⟨_, rfl⟩
  show Own (growR s.R (lineR s.R (some c)) a) (fun y => if y = c then own c + a else own y) ∧ LoR (growR s.R (lineR s.R (some c)) a)
  rw [← eL] at hL hr ⊢
  have sh : shape s.R = shape (growR s.R L a) := (shape_grow _ _ _).symm
  have ek : keysR (growR s.R L a) = keysR s.R := (shape_keys sh).symm
  have hn : ∀ x ∈ keysR s.R, numR (growR s.R L a) x = numR s.R x + if x ∈ L then a else 0 := fun x hx => by
    obtain ⟨z, ez⟩ := key_rget hx
    exact num_grow ez
  have hck := rget_key ew
  refine ⟨⟨?_, ?_⟩, ?_⟩
  · intro x hx
    rw [ek] at hx ⊢
    rw [hn x hx, O.a x hx]
    have e1 : ls (keysR s.R) (fun y => if x ∈ lineR (growR s.R L a) (some y) then (if y = c then own c + a else own y) else 0) = ls (keysR s.R) (fun y => (if x ∈ lineR s.R (some y) then own y else 0) + if y = c then (if x ∈ L then a else 0) else 0) := ls_congr fun y hy => by
      rw [line_shape sh h hy]
      by_cases q : y = c
      · subst q
        rw [if_pos rfl, if_pos rfl, ← eL]
        by_cases m : x ∈ L
        · rw [if_pos m, if_pos m, if_pos m]
        · rw [if_neg m, if_neg m, if_neg m, Int.add_zero]
      · rw [if_neg q, if_neg q, Int.add_zero]
    rw [e1, ls_add, ls_one h.nd, if_pos hck]
  · intro x hx hne
    rw [ek] at hx
    show (if x = c then own c + a else own x) = 0
    have hne' : hangR s.R (some x) ≠ [] := by rw [shape_hang sh]; exact hne
    rw [if_neg (fun z : x = c => hne' (by rw [z]; exact he))]
    exact O.b x hx hne'
  · intro x hx
    rw [ek] at hx
    rw [hn x hx]
    by_cases m : x ∈ L
    · rw [if_pos m]; exact hr x m
    · rw [if_neg m, Int.add_zero]; exact g x hx
theorem Good.lay {s : Bs δ} (ok : OkB s) (g : Good s.R) {c a n : Int} {s' : Bs δ} (e : layB s c a = .ok (n, s')) : Good s'.R := by
  obtain ⟨own, O⟩ := g.own
  obtain ⟨h1, h2⟩ := own_lay ok O g.lo e
  exact ⟨⟨_, h1⟩, h2⟩
/-! moving -/
theorem move_line {R R' : RowsD δ} {c : Int} {w w' : RwD δ} {Lo Lg : List Int} (hsame : ∀ k, k ≠ c → (rget R k).map (·.1) = (rget R' k).map (·.1)) (ec : rget R c = some w) (ec' : rget R' c = some w') (hLo : Line R w.1 Lo) (hLg : Line R' w'.1 Lg)
    {o : Option Int} {L : List Int} (hl : Line R o L) : (c ∉ L → Line R' o L) ∧ (c ∈ L → ∃ A, L = A ++ c :: Lo ∧ Line R' o (A ++ c :: Lg)) := by
  induction hl with
  | nil => exact ⟨fun _ => .nil, fun h => by cases h⟩
  | @cons x z L e hl ih =>
    by_cases q : x = c
    · subst q
      rw [ec] at e
      cases e
      have := hl.det hLo
      subst this
      exact ⟨fun h => absurd List.mem_cons_self h, fun _ => ⟨[], rfl, .cons ec' hLg⟩⟩
    · have hz := hsame x q
      rw [e] at hz
      cases e' : rget R' x with
      | none => rw [e'] at hz; cases hz
      | some z' =>
        rw [e'] at hz
        have hz : z.1 = z'.1 := Option.some.inj hz
        refine ⟨fun h => ?_, fun h => ?_⟩
        · rw [List.mem_cons, not_or] at h
          exact .cons e' (by rw [← hz]; exact ih.1 h.2)
        · rcases List.mem_cons.mp h with h | h
          · exact absurd h.symm q
          · obtain ⟨A, e1, h1⟩ := ih.2 h
            exact ⟨x :: A, by rw [e1] <;> rfl, .cons e' (by rw [← hz]; exact h1)⟩
theorem own_move {s : Bs δ} (ok : OkB s) {own : Int → Int} (O : Own s.R own) (g : LoR s.R) {c : Int} {p : Option Int} {w : RwD δ} (ew : rget s.R c = some w) {Lg : List Int} (hLg : Line s.R p Lg) (hcg : c ∉ Lg)
    (hp1 : ∀ q, p = some q → ∃ z, rget s.R q = some z ∧ (hangR s.R (some q) = [] → z.2.2 = 0)) :
    Own (moveR s.R c p w) own ∧ keysR (moveR s.R c p w) = keysR s.R ∧ (∀ x ∈ keysR s.R, numR (moveR s.R c p w) x = numR s.R x - (if x ∈ lineR s.R w.1 then w.2.2 else 0) + (if x ∈ Lg then w.2.2 else 0)) ∧
    ((∀ x ∈ Lg, x ∉ lineR s.R w.1 → numR s.R x + w.2.2 ≤ 999) → LoR (moveR s.R c p w)) := by
  have h := ok.now.wf
  have hLo := h.over ew
  obtain ⟨Lo, eLo⟩ : ∃ Lo, Lo = lineR s.R w.1 := ⟨_, rfl⟩
  have eLg : lineR s.R p = Lg := hLg.eq
  rw [← eLo] at hLo ⊢
  have hco : c ∉ Lo := (List.nodup_cons.mp (Line.cons ew hLo).nodup).1
  have hck := rget_key ew
  have wf0 : Wf (moveR s.R c p w) := (ok.now.move ew hLg hcg).wf
  obtain ⟨R', eR'⟩ : ∃ R', R' = moveR s.R c p w := ⟨_, rfl⟩
  have eR'2 : R' = rput (growR (growR s.R Lo (-w.2.2)) Lg w.2.2) c (p, w.2.1, w.2.2) := by rw [eR', eLo, ← eLg] <;> rfl
  have wf' : Wf R' := by rw [eR']; exact wf0
  rw [← eR']
  have sh1 : shape s.R = shape (growR (growR s.R Lo (-w.2.2)) Lg w.2.2) := by rw [shape_grow, shape_grow]
  have hg : ∀ k, rget R' k = if k = c then some (p, w.2.1, w.2.2) else rget (growR (growR s.R Lo (-w.2.2)) Lg w.2.2) k := fun k => by rw [eR'2, rget_put]
  have ec2 : ∃ z, rget (growR (growR s.R Lo (-w.2.2)) Lg w.2.2) c = some z := key_rget (by rw [← shape_keys sh1]; exact hck)
  obtain ⟨z2, ec2⟩ := ec2
  have ek : keysR R' = keysR s.R := by rw [eR'2, keys_rput ec2, ← shape_keys sh1]
  have ec' : rget R' c = some (p, w.2.1, w.2.2) := by rw [hg, if_pos rfl]
  have hsame : ∀ k, k ≠ c → (rget s.R k).map (·.1) = (rget R' k).map (·.1) := fun k hk => by
    rw [hg, if_neg hk]
    exact shape_over sh1 k
  have hLg' : Line R' p Lg := by
    rw [eR'2]
    exact (shape_line sh1 hLg).putOff hcg
  have hn : ∀ x ∈ keysR s.R, numR R' x = numR s.R x - (if x ∈ Lo then w.2.2 else 0) + (if x ∈ Lg then w.2.2 else 0) := fun x hx => by
    obtain ⟨z, ez⟩ := key_rget hx
    by_cases q : x = c
    · subst q
      rw [numR_some ec', numR_some ew, if_neg hco, if_neg hcg]
      show w.2.2 = w.2.2 - 0 + 0
      omega
    · have e1 : numR R' x = numR (growR (growR s.R Lo (-w.2.2)) Lg w.2.2) x := by
        unfold numR
        rw [hg, if_neg q]
      have e2 : ∃ z', rget (growR s.R Lo (-w.2.2)) x = some z' := key_rget (by rw [shape_keys (shape_grow _ _ _)]; exact hx)
      obtain ⟨z', e2⟩ := e2
      rw [e1, num_grow e2, num_grow ez]
      by_cases m : x ∈ Lo
      · rw [if_pos m, if_pos m]; omega
      · rw [if_neg m, if_neg m]; omega
  have lines : ∀ y ∈ keysR s.R, ∀ x, (if x ∈ lineR R' (some y) then own y else 0) = (if x ∈ lineR s.R (some y) then own y else 0) + ((if x ∈ Lg then (if c ∈ lineR s.R (some y) then own y else 0) else 0) - (if x ∈ Lo then (if c ∈ lineR s.R (some y) then own y else 0) else 0)) := fun y hy x => by
    obtain ⟨z, ez⟩ := key_rget hy
    obtain ⟨m1, m2⟩ := move_line hsame ew ec' hLo hLg' (h.of ez)
    by_cases q : c ∈ lineR s.R (some y)
    · obtain ⟨A, e1, h1⟩ := m2 q
      rw [h1.eq, if_pos q]
      have nd1 := (h.of ez).nodup
      have nd2 := h1.nodup
      rw [e1] at nd1 ⊢
      have d1 : x ∈ Lo → x ∉ A ∧ x ≠ c := fun hx => ⟨fun z => (List.nodup_append.mp nd1).2.2 x z x (List.mem_cons_of_mem _ hx) rfl, fun z => (List.nodup_cons.mp (List.nodup_append.mp nd1).2.1).1 (by rw [← z]; exact hx)⟩
      have d2 : x ∈ Lg → x ∉ A ∧ x ≠ c := fun hx => ⟨fun z => (List.nodup_append.mp nd2).2.2 x z x (List.mem_cons_of_mem _ hx) rfl, fun z => (List.nodup_cons.mp (List.nodup_append.mp nd2).2.1).1 (by rw [← z]; exact hx)⟩
      by_cases m3 : x ∈ Lo <;> by_cases m4 : x ∈ Lg <;> by_cases m5 : x ∈ A <;> by_cases m6 : x = c <;> simp [m3, m4, m5, m6, hcg, hco] <;> first | omega | (exfalso; first | exact (d1 m3).1 m5 | exact (d1 m3).2 m6 | exact (d2 m4).1 m5 | exact (d2 m4).2 m6) | skip
      all_goals first | omega | (subst m6; first | exact absurd m3 hco | exact absurd m4 hcg) | skip
    · rw [(m1 q).eq, if_neg q]
      split <;> split <;> omega
  refine ⟨⟨?_, ?_⟩, ek, hn, fun hp2 => ?_⟩
  · intro x hx
    rw [ek] at hx ⊢
    rw [hn x hx]
    rw [ls_congr fun y hy => lines y hy x, ls_add, ls_sub, ← O.a x hx]
    have hc := O.a c hck
    rw [numR_some ew] at hc
    by_cases m3 : x ∈ Lo <;> by_cases m4 : x ∈ Lg
    · simp only [if_pos m3, if_pos m4]; rw [← hc]; omega
    · simp only [if_pos m3, if_neg m4]; rw [← hc, ls_zero fun _ _ => rfl]; omega
    · simp only [if_neg m3, if_pos m4]; rw [← hc, ls_zero (g := fun _ => 0) fun _ _ => rfl]; omega
    · simp only [if_neg m3, if_neg m4]; rw [ls_zero (g := fun _ => 0) fun _ _ => rfl]; omega
  · intro x hx hne
    rw [ek] at hx
    by_cases he : hangR s.R (some x) = []
    · -- someone hangs from it now: the moved one
      have hcx : p = some x := by
        cases hh : hangR R' (some x) with
        | nil => exact absurd hh hne
        | cons y r =>
          obtain ⟨z, ez, hz⟩ := (mem_hang wf'.nd).mp (show y ∈ hangR R' (some x) by rw [hh]; exact List.mem_cons_self)
          by_cases q : y = c
          · subst q
            rw [ec'] at ez
            cases ez
            exact hz
          · have h1 := hsame y q
            rw [ez] at h1
            cases h2 : rget s.R y with
            | none => rw [h2] at h1; cases h1
            | some z' =>
              rw [h2] at h1
              have h1 : z'.1 = z.1 := Option.some.inj h1
              have : y ∈ hangR s.R (some x) := (mem_hang h.nd).mpr ⟨z', h2, by rw [h1, hz]⟩
              rw [he] at this
              cases this
      obtain ⟨z, ez, hz⟩ := hp1 x hcx
      have := O.end_ h hx he
      rw [numR_some ez, hz he] at this
      exact this.symm
    · exact O.b x hx he
  · intro x hx
    rw [ek] at hx
    rw [hn x hx]
    have h1 := g x hx
    have h2 := g c hck
    rw [numR_some ew] at h2
    by_cases m3 : x ∈ Lo
    · have h3 := O.up h g (Line.cons ew hLo) (List.mem_cons_of_mem _ m3)
      rw [numR_some ew] at h3
      rw [if_pos m3]
      split <;> omega
    · rw [if_neg m3]
      by_cases m4 : x ∈ Lg
      · have := hp2 x m4 m3
        rw [if_pos m4]
        omega
      · rw [if_neg m4]
        omega
theorem Good.move {s : Bs δ} (ok : OkB s) (g : Good s.R) {c n : Int} {p : Option Int} {s' : Bs δ} (e : moveB s c p = .ok (n, s')) : Good s'.R := by
  have hok := moveB_ok ok e
  obtain ⟨ok', w, ew, rfl, rfl, Lg, hLg, hcg⟩ := hok
  rw [moveB_eq ew] at e
  obtain ⟨own, O⟩ := g.own
  have h := ok.now.wf
  have hLo := h.over ew
  obtain ⟨Lo, eLo⟩ : ∃ Lo, Lo = lineR s.R w.1 := ⟨_, rfl⟩
  have eLg : lineR s.R p = Lg := hLg.eq
  rw [← eLo] at hLo e
  rw [eLg] at e
  have hco : c ∉ Lo := (List.nodup_cons.mp (Line.cons ew hLo).nodup).1
  have hck := rget_key ew
  -- what the place says
  have hp : (∀ q, p = some q → ∃ z, rget s.R q = some z ∧ (hangR s.R (some q) = [] → z.2.2 = 0)) ∧ ∀ x ∈ Lg, x ∉ Lo → numR s.R x + w.2.2 ≤ 999 := by
    cases hx : moveX s c p with
    | some y => rw [hx] at e; cases e
    | none =>
      rw [hx] at e
      dsimp only at e
      split at e
      · cases e
      · rename_i hn
        refine ⟨?_, fun x h1 h2 => Int.not_lt.mp fun z => hn ⟨x, h1, h2, z⟩⟩
        rintro q rfl
        cases hq : rget s.R q with
        | none => rw [moveX_none hq] at hx; cases hx
        | some z =>
          rw [moveX_some hq] at hx
          split at hx
          · cases hx
          · split at hx
            · cases hx
            · rename_i hk
              exact ⟨z, rfl, fun he => Decidable.of_not_not fun y => hk ⟨he, y⟩⟩
  clear e
  show Good (moveR s.R c p w)
  obtain ⟨h1, h2, h3, h4⟩ := own_move ok O g.lo ew hLg hcg hp.1
  exact ⟨⟨_, h1⟩, h4 (by rw [← eLo]; exact hp.2)⟩
/-! cutting -/
theorem own_cut {s : Bs δ} (ok : OkB s) {own : Int → Int} (O : Own s.R own) (g : LoR s.R) {c : Int} {l : List Int} {s' : Bs δ} (e : cutB s c = .ok (l, s')) : Own s'.R own ∧ LoR s'.R := by
  obtain ⟨ok', _, w, ew, rfl⟩ := cutB_ok ok e
  have h := ok.now.wf
  have hLo := h.over ew
  obtain ⟨Lo, eLo⟩ : ∃ Lo, Lo = lineR s.R w.1 := ⟨_, rfl⟩
  rw [← eLo] at hLo
  have hck := rget_key ew
  show Own (cutR s.R c w) own ∧ LoR (cutR s.R c w)
  have wf' : Wf (cutR s.R c w) := ok'.now.wf
  have sh1 : shape s.R = shape (growR s.R Lo (-w.2.2)) := (shape_grow _ _ _).symm
  have ek : keysR (cutR s.R c w) = (keysR s.R).filter fun k => decide (k ∉ underL s.R c) := by
    unfold cutR
    rw [keys_filter (P := fun k => decide (k ∉ underL s.R c)), shape_keys (shape_grow _ _ _)]
  have hg : ∀ k, rget (cutR s.R c w) k = if k ∉ underL s.R c then rget (growR s.R Lo (-w.2.2)) k else none := fun k => by
    unfold cutR
    rw [rget_filter (P := fun k => decide (k ∉ underL s.R c)), ← eLo]
    by_cases q : k ∉ underL s.R c
    · rw [if_pos (decide_eq_true q), if_pos q]
    · rw [if_neg (by rw [decide_eq_false q]; exact Bool.false_ne_true), if_neg q]
  have hsub : ∀ k z, rget (cutR s.R c w) k = some z → ∃ z', rget s.R k = some z' ∧ z'.1 = z.1 := fun k z e => by
    rw [hg] at e
    split at e
    · have h1 := shape_over sh1 k
      rw [e] at h1
      cases h2 : rget s.R k with
      | none => rw [h2] at h1; cases h1
      | some z' => rw [h2] at h1; exact ⟨z', rfl, Option.some.inj h1⟩
    · cases e
  have hline : ∀ {o : Option Int} {L : List Int}, Line (cutR s.R c w) o L → Line s.R o L := by
    intro o L hl
    induction hl with
    | nil => exact .nil
    | cons e _ ih =>
      obtain ⟨z', e', e1⟩ := hsub _ _ e
      exact .cons e' (by rw [e1]; exact ih)
  have hlq : ∀ y, y ∈ keysR (cutR s.R c w) → lineR (cutR s.R c w) (some y) = lineR s.R (some y) := fun y hy => by
    obtain ⟨z, ez⟩ := key_rget hy
    exact (hline (wf'.of ez)).eq.symm
  have hin : ∀ x, x ∈ keysR (cutR s.R c w) ↔ x ∈ keysR s.R ∧ x ∉ underL s.R c := fun x => by
    rw [ek, List.mem_filter]
    exact ⟨fun z => ⟨z.1, of_decide_eq_true z.2⟩, fun z => ⟨z.1, decide_eq_true z.2⟩⟩
  have hn : ∀ x ∈ keysR (cutR s.R c w), numR (cutR s.R c w) x = numR s.R x - if x ∈ Lo then w.2.2 else 0 := fun x hx => by
    obtain ⟨hx1, hx2⟩ := (hin x).mp hx
    obtain ⟨z, ez⟩ := key_rget hx1
    have e1 : numR (cutR s.R c w) x = numR (growR s.R Lo (-w.2.2)) x := by
      unfold numR
      rw [hg, if_pos hx2]
    rw [e1, num_grow ez]
    split <;> omega
  refine ⟨⟨?_, ?_⟩, ?_⟩
  · intro x hx
    obtain ⟨hx1, hx2⟩ := (hin x).mp hx
    rw [hn x hx]
    have e1 : ls (keysR (cutR s.R c w)) (fun y => if x ∈ lineR (cutR s.R c w) (some y) then own y else 0) = ls (keysR (cutR s.R c w)) (fun y => if x ∈ lineR s.R (some y) then own y else 0) := ls_congr fun y hy => by rw [hlq y hy]
    rw [e1, ek, ls_filter]
    have e2 : ls (keysR s.R) (fun y => if decide (y ∉ underL s.R c) = true then (if x ∈ lineR s.R (some y) then own y else 0) else 0) = ls (keysR s.R) (fun y => (if x ∈ lineR s.R (some y) then own y else 0) - if x ∈ Lo then (if c ∈ lineR s.R (some y) then own y else 0) else 0) := ls_congr fun y hy => by
      obtain ⟨z, ez⟩ := key_rget hy
      have hl := h.of ez
      by_cases q : y ∈ underL s.R c
      · rw [if_neg (by rw [decide_eq_false (fun z => z q)]; exact Bool.false_ne_true)]
        have hcu := (under_iff h hy).mp ((mem_underL h).mp q)
        rw [if_pos hcu]
        obtain ⟨A, B, eAB, hB⟩ := hl.from c hcu
        have eB : c :: B = c :: Lo := (Line.cons ew hLo).det hB
        injection eB with _ eB
        subst eB
        by_cases m : x ∈ B
        · rw [if_pos m, if_pos (by rw [eAB]; simp [m])]
          omega
        · rw [if_neg m, if_neg]
          · rfl
          · intro hm
            -- x would be beneath c
            obtain ⟨A2, B2, eAB2, hB2⟩ := hl.from x hm
            apply hx2
            rw [mem_underL h]
            refine ⟨_, hB2, ?_⟩
            rw [eAB] at hm
            rcases List.mem_append.mp hm with hm | hm
            · -- c stands behind x on y's line
              rw [eAB] at eAB2
              have key : ∀ (A A2 B2 : List Int), A ++ c :: B = A2 ++ x :: B2 → x ∈ A → (A ++ c :: B).Nodup → c ∈ x :: B2 := by
                intro A
                induction A with
                | nil => intro A2 B2 _ hx; cases hx
                | cons a A ih =>
                  intro A2 B2 e hx nd
                  cases A2 with
                  | nil =>
                    rw [List.cons_append, List.nil_append] at e
                    injection e with e1 e2
                    rw [← e1, ← e2]
                    simp
                  | cons a2 A2 =>
                    rw [List.cons_append, List.cons_append] at e
                    injection e with e1 e2
                    rw [List.cons_append, List.nodup_cons] at nd
                    rcases List.mem_cons.mp hx with hx | hx
                    · exfalso
                      apply nd.1
                      rw [e2, ← hx]
                      simp
                    · exact ih A2 B2 e2 hx nd.2
              refine key A A2 B2 eAB2 hm ?_
              rw [← eAB]
              exact hl.nodup
            · rcases List.mem_cons.mp hm with hm | hm
              · rw [hm]; exact List.mem_cons_self
              · exact absurd hm m
      · rw [if_pos (decide_eq_true q)]
        have hcu : c ∉ lineR s.R (some y) := fun z => q ((mem_underL h).mpr ((under_iff h hy).mpr z))
        rw [if_neg hcu]
        split <;> split <;> omega
    rw [e2, ls_sub, ← O.a x hx1]
    have hc := O.a c hck
    rw [numR_some ew] at hc
    by_cases m : x ∈ Lo
    · simp only [if_pos m]; rw [← hc]
    · simp only [if_neg m]; rw [ls_zero (g := fun _ => 0) fun _ _ => rfl]
  · intro x hx hne
    obtain ⟨hx1, hx2⟩ := (hin x).mp hx
    refine O.b x hx1 fun he => hne ?_
    cases hh : hangR (cutR s.R c w) (some x) with
    | nil => rfl
    | cons y r =>
      obtain ⟨z, ez, hz⟩ := (mem_hang wf'.nd).mp (show y ∈ hangR (cutR s.R c w) (some x) by rw [hh]; exact List.mem_cons_self)
      obtain ⟨z', e', e1⟩ := hsub _ _ ez
      have : y ∈ hangR s.R (some x) := (mem_hang h.nd).mpr ⟨z', e', by rw [e1, hz]⟩
      rw [he] at this
      cases this
  · intro x hx
    obtain ⟨hx1, hx2⟩ := (hin x).mp hx
    rw [hn x hx]
    have h1 := g x hx1
    have h2 := g c hck
    rw [numR_some ew] at h2
    by_cases m : x ∈ Lo
    · have h3 := O.up h g (Line.cons ew hLo) (List.mem_cons_of_mem _ m)
      rw [numR_some ew] at h3
      rw [if_pos m]
      omega
    · rw [if_neg m]
      omega
theorem Good.cut {s : Bs δ} (ok : OkB s) (g : Good s.R) {c : Int} {l : List Int} {s' : Bs δ} (e : cutB s c = .ok (l, s')) : Good s'.R := by
  obtain ⟨own, O⟩ := g.own
  obtain ⟨h1, h2⟩ := own_cut ok O g.lo e
  exact ⟨⟨_, h1⟩, h2⟩
/-! each that is no end says the sum of those that hang from it -/
theorem kid_on {R : RowsD δ} (h : Wf R) (x a : Int) {o : Option Int} {L : List Int} (hl : Line R o L) : ls (hangR R (some x)) (fun k => if k ∈ L then a else 0) = if x ∈ L ∧ o ≠ some x then a else 0 := by
  have ndh := asc_nodup (hang_asc h.asc (o := some x))
  induction hl with
  | nil => rw [if_neg (by simp), ls_zero fun k _ => if_neg (by simp)]
  | @cons k w L e hl ih =>
    have nd := (Line.cons e hl).nodup
    rw [List.nodup_cons] at nd
    have e1 : ls (hangR R (some x)) (fun j => if j ∈ k :: L then a else 0) = ls (hangR R (some x)) (fun j => (if j ∈ L then a else 0) + if j = k then a else 0) := ls_congr fun j _ => by
      by_cases q : j = k
      · subst q
        rw [if_pos List.mem_cons_self, if_neg nd.1, if_pos rfl, Int.zero_add]
      · rw [if_neg q, Int.add_zero]
        by_cases m : j ∈ L
        · rw [if_pos m, if_pos (List.mem_cons_of_mem _ m)]
        · rw [if_neg m, if_neg (fun z => (List.mem_cons.mp z).elim q m)]
    rw [e1, ls_add, ih, ls_one ndh]
    by_cases q : w.1 = some x
    · have hk : k ∈ hangR R (some x) := (mem_hang h.nd).mpr ⟨w, e, q⟩
      rw [q] at hl
      have hx := hl.head
      have nk : k ≠ x := fun z => nd.1 (by rw [z]; exact hx)
      rw [if_neg (fun z => z.2 q), if_pos hk, if_pos ⟨List.mem_cons_of_mem _ hx, fun z => nk (Option.some.inj z)⟩, Int.zero_add]
    · have hk : k ∉ hangR R (some x) := fun z => by
        obtain ⟨w', e', hw⟩ := (mem_hang h.nd).mp z
        rw [e] at e'
        cases e'
        exact q hw
      rw [if_neg hk, Int.add_zero]
      by_cases m : x ∈ L
      · have nk : k ≠ x := fun z => nd.1 (by rw [z]; exact m)
        rw [if_pos ⟨m, q⟩, if_pos ⟨List.mem_cons_of_mem _ m, fun z => nk (Option.some.inj z)⟩]
      · rw [if_neg (fun z => m z.1), if_neg]
        rintro ⟨h1, h2⟩
        rcases List.mem_cons.mp h1 with h1 | h1
        · exact h2 (by rw [h1])
        · exact m h1
theorem Own.sums {R : RowsD δ} {own : Int → Int} (O : Own R own) (h : Wf R) {x : Int} (hx : x ∈ keysR R) (he : hangR R (some x) ≠ []) : ls (hangR R (some x)) (numR R) = numR R x := by
  have e1 : ls (hangR R (some x)) (numR R) = ls (hangR R (some x)) (fun k => ls (keysR R) fun y => if k ∈ lineR R (some y) then own y else 0) := ls_congr fun k hk => by
    obtain ⟨w, ew, _⟩ := (mem_hang h.nd).mp hk
    exact O.a k (rget_key ew)
  rw [e1, ls_swap, O.a x hx]
  refine ls_congr fun y hy => ?_
  obtain ⟨w, ew⟩ := key_rget hy
  rw [kid_on h x (own y) (h.of ew)]
  by_cases q : y = x
  · subst q
    rw [if_neg (fun z => z.2 rfl), O.b y hx he]
    split <;> rfl
  · by_cases m : x ∈ lineR R (some y)
    · rw [if_pos ⟨m, fun z => q (Option.some.inj z)⟩, if_pos m]
    · rw [if_neg (fun z => m z.1), if_neg m]
theorem Good.empty : Good ([] : RowsD δ) := ⟨⟨fun _ => 0, fun x hx => (by cases hx), fun x hx => (by cases hx)⟩, fun x hx => by cases hx⟩
end
end Cor

/-! ## MMod -/
/-! ### a book by what was laid on each cord -/
namespace Cor
variable {δ : Type}
def omap (own : Int → Int) (R : RowsD δ) : RowsD δ := R.map fun p => (p.1, (p.2.1, p.2.2.1, own p.1))
theorem omap_shape (own : Int → Int) (R : RowsD δ) : shape (omap own R) = shape R := by
  unfold shape omap
  rw [List.map_map] <;> rfl
theorem omap_keys (own : Int → Int) (R : RowsD δ) : keysR (omap own R) = keysR R := shape_keys (omap_shape own R)
theorem omap_hang (own : Int → Int) (R : RowsD δ) (o : Option Int) : hangR (omap own R) o = hangR R o := shape_hang (omap_shape own R) o
theorem omap_get (own : Int → Int) (R : RowsD δ) (k : Int) : rget (omap own R) k = (rget R k).map fun w => (w.1, w.2.1, own k) := by
  unfold omap
  induction R with
  | nil => rfl
  | cons p r ih =>
    rw [List.map_cons]
    by_cases q : p.1 = k
    · rw [rget_pos (p := (p.1, p.2.1, p.2.2.1, own p.1)) q, rget_pos q, Option.map_some, q]
    · rw [rget_neg (p := (p.1, p.2.1, p.2.2.1, own p.1)) q, rget_neg q, ih]
theorem omap_num {own : Int → Int} {R : RowsD δ} {k : Int} (hk : k ∈ keysR R) : numR (omap own R) k = own k := by
  obtain ⟨w, ew⟩ := key_rget hk
  unfold numR
  rw [omap_get, ew] <;> rfl
theorem omap_congr {own own' : Int → Int} {R : RowsD δ} (h : ∀ k ∈ keysR R, own k = own' k) : omap own R = omap own' R := by
  unfold omap
  refine List.map_congr_left fun p hp => ?_
  rw [h p.1 (List.mem_map.mpr ⟨p, hp, rfl⟩)]
theorem omap_wf {own : Int → Int} {R : RowsD δ} (h : Wf R) : Wf (omap own R) := shape_wf (omap_shape own R).symm h
theorem omap_line {own : Int → Int} {R : RowsD δ} (h : Wf R) {y : Int} (hy : y ∈ keysR R) : lineR (omap own R) (some y) = lineR R (some y) := line_shape (omap_shape own R).symm h hy
theorem omap_under {own : Int → Int} {R : RowsD δ} (h : Wf R) (c : Int) : underL (omap own R) c = underL R c := by
  unfold underL
  rw [omap_keys]
  exact List.filter_congr fun y hy => by rw [omap_line h hy]
theorem omap_grow (own : Int → Int) (R : RowsD δ) (L : List Int) (a : Int) : omap own (growR R L a) = omap own R := by
  unfold omap growR
  rw [List.map_map]
  refine List.map_congr_left fun p _ => ?_
  show (p.1, _) = _
  dsimp only [Function.comp]
  split <;> rfl
theorem rput_add {R : RowsD δ} {k : Int} {w : RwD δ} (h : rget R k = none) : rput R k w = R ++ [(k, w)] := by
  unfold rput
  rw [rget_any, h]
  rfl
theorem omap_put (own : Int → Int) {R : RowsD δ} {c : Int} {z : RwD δ} (e : rget R c = some z) (p : Option Int) (d : δ) (n : Int) : omap own (rput R c (p, d, n)) = rput (omap own R) c (p, d, own c) := by
  rw [rput_old e, rput_old (R := omap own R) (z := (z.1, z.2.1, own c)) (by rw [omap_get, e] <;> rfl)]
  unfold omap
  rw [List.map_map, List.map_map]
  refine List.map_congr_left fun q _ => ?_
  dsimp only [Function.comp]
  by_cases h : q.1 = c
  · rw [if_pos h, if_pos h, h]
  · rw [if_neg h, if_neg h]
/-- what was laid on all beneath -/
def modN (M : RowsD δ) (x : Int) : Int := ls (underL M x) (numR M)
theorem modN_sum {R : RowsD δ} (h : Wf R) (own : Int → Int) (x : Int) : modN (omap own R) x = ls (keysR R) fun y => if x ∈ lineR R (some y) then own y else 0 := by
  unfold modN
  rw [omap_under h]
  have e : ls (underL R x) (numR (omap own R)) = ls (underL R x) own := ls_congr fun y hy => omap_num (List.mem_filter.mp hy).1
  rw [e]
  unfold underL
  rw [ls_filter]
  refine ls_congr fun y _ => ?_
  by_cases q : x ∈ lineR R (some y)
  · rw [if_pos (decide_eq_true q), if_pos q]
  · rw [if_neg (by rw [decide_eq_false q]; exact Bool.false_ne_true), if_neg q]
theorem modN_eq {R : RowsD δ} {own : Int → Int} (O : Own R own) (h : Wf R) {x : Int} (hx : x ∈ keysR R) : modN (omap own R) x = numR R x := by
  rw [modN_sum h, O.a x hx]
/-- the rows M of the law beside the rows R of the book -/
def Mod (R M : RowsD δ) : Prop := ∃ own, Own R own ∧ M = omap own R ∧ LoR R
inductive MA where
  | non
  | num (n : Int)
  | nms (l : List Int)
abbrev Due (δ : Type) := String × MA × RowsD δ
def wayS (x : String) : String := if x = "NoCord" then "no cord" else if x = "Knotted" then "knotted" else if x = "NotEnd" then "no end" else if x = "Ring" then "ring" else if x = "TooMuch" then "too much" else "nothing"
def hangM (M : RowsD δ) (f : Int) (o : Option Int) (d : δ) : Due δ := match o with
  | none => ("done", .num f, rput M f (o, d, 0))
  | some c => (match rget M c with
    | none => ("no cord", .non, M)
    | some w => if hangR M (some c) = [] ∧ w.2.2 ≠ 0 then ("knotted", .non, M) else ("done", .num f, rput M f (o, d, 0)))
def layM (M : RowsD δ) (c a : Int) : Due δ := match rget M c with
  | none => ("no cord", .non, M)
  | some w => if hangR M (some c) ≠ [] then ("no end", .non, M) else
    if ∃ x ∈ lineR M (some c), ¬ (0 ≤ modN (rput M c (w.1, w.2.1, w.2.2 + a)) x ∧ modN (rput M c (w.1, w.2.1, w.2.2 + a)) x ≤ 999) then ("too much", .non, M) else ("done", .num (w.2.2 + a), rput M c (w.1, w.2.1, w.2.2 + a))
def placeM (M : RowsD δ) (c : Int) : Option Int → Option String
  | none => none
  | some q => (match rget M q with
    | none => some "no cord"
    | some z => if c ∈ lineR M (some q) then some "ring" else if hangR M (some q) = [] ∧ z.2.2 ≠ 0 then some "knotted" else none)
def moveM (M : RowsD δ) (c : Int) (p : Option Int) : Due δ := match rget M c with
  | none => ("no cord", .non, M)
  | some w => (match placeM M c p with
    | some x => (x, .non, M)
    | none => if ∃ x ∈ keysR (rput M c (p, w.2.1, w.2.2)), 999 < modN (rput M c (p, w.2.1, w.2.2)) x then ("too much", .non, M) else ("done", .num (modN M c), rput M c (p, w.2.1, w.2.2)))
def cutM (M : RowsD δ) (c : Int) : Due δ := match rget M c with
  | none => ("no cord", .non, M)
  | some _ => ("done", .nms (underL M c), M.filter fun p => decide (p.1 ∉ underL M c))
/-- at an end, what was laid on it is its number -/
theorem end_iff {R : RowsD δ} {own : Int → Int} (O : Own R own) (h : Wf R) {c : Int} {w : RwD δ} (e : rget R c = some w) : (hangR R (some c) = [] ∧ own c ≠ 0) ↔ (hangR R (some c) = [] ∧ w.2.2 ≠ 0) := by
  refine and_congr_right fun he => ?_
  have := O.end_ h (rget_key e) he
  rw [numR_some e] at this
  rw [this]
theorem hang_match {s : Bs δ} {M : RowsD δ} (ok : OkB s) (m : Mod s.R M) (o : Option Int) (d : δ) : (∀ x, hangB s o d = .error x → hangM M s.fol o d = (wayS x, .non, M)) ∧
    ∀ n s', hangB s o d = .ok (n, s') → ∃ M', hangM M s.fol o d = ("done", .num n, M') ∧ Mod s'.R M' := by
  obtain ⟨own, O, rfl, lo⟩ := m
  have hf := ok.now.new
  have put : ∀ n s', hangB s o d = .ok (n, s') → n = s.fol ∧ Mod s'.R (rput (omap own s.R) s.fol (o, d, 0)) := fun n s' e => by
    obtain ⟨_, en, es⟩ := hangB_ok ok e
    obtain ⟨O', lo'⟩ := own_hang ok O lo e
    refine ⟨en, _, O', ?_, lo'⟩
    rw [rput_add (by rw [omap_get, hf] <;> rfl), es]
    show _ = omap _ (s.R ++ [(s.fol, (o, d, 0))])
    unfold omap
    rw [List.map_append, List.map_singleton]
    show _ = _ ++ [(s.fol, (o, d, if s.fol = s.fol then 0 else own s.fol))]
    rw [if_pos rfl]
    congr 1
    refine omap_congr (R := s.R) (own := own) (own' := fun y => if y = s.fol then 0 else own y) fun k hk => ?_
    rw [if_neg (fun z : k = s.fol => rget_none.mp hf (by rw [← z]; exact hk))]
  cases o with
  | none =>
    refine ⟨fun x e => (by cases e), fun n s' e => ?_⟩
    obtain ⟨rfl, h⟩ := put n s' e
    exact ⟨_, rfl, h⟩
  | some c =>
    unfold hangM
    dsimp only
    rw [omap_get]
    unfold hangB at put ⊢
    dsimp only at put ⊢
    cases e : rget s.R c with
    | none =>
      refine ⟨fun x ex => ?_, fun n s' ex => (by cases ex)⟩
      cases ex
      rfl
    | some w =>
      rw [e] at put
      dsimp only [Option.map_some] at put ⊢
      rw [omap_hang]
      have hi := end_iff O ok.now.wf e
      by_cases q : hangR s.R (some c) = [] ∧ w.2.2 ≠ 0
      · rw [if_pos q, if_pos (hi.mpr q)]
        refine ⟨fun x ex => ?_, fun n s' ex => (by cases ex)⟩
        cases ex
        rfl
      · rw [if_neg q] at put ⊢
        rw [if_neg (fun z => q (hi.mp z))]
        refine ⟨fun x ex => (by cases ex), fun n s' ex => ?_⟩
        obtain ⟨rfl, h⟩ := put n s' ex
        exact ⟨_, rfl, h⟩
theorem lay_match {s : Bs δ} {M : RowsD δ} (ok : OkB s) (m : Mod s.R M) (c a : Int) : (∀ x, layB s c a = .error x → layM M c a = (wayS x, .non, M)) ∧
    ∀ n s', layB s c a = .ok (n, s') → ∃ M', layM M c a = ("done", .num n, M') ∧ Mod s'.R M' := by
  obtain ⟨own, O, rfl, lo⟩ := m
  have h := ok.now.wf
  unfold layM
  rw [omap_get]
  cases e : rget s.R c with
  | none =>
    have el : layB s c a = .error "NoCord" := by unfold layB; rw [layX_none e]
    rw [el]
    refine ⟨fun x ex => ?_, fun n s' ex => (by cases ex)⟩
    cases ex
    rfl
  | some w =>
    dsimp only [Option.map_some]
    rw [omap_hang]
    have hc := rget_key e
    by_cases he : hangR s.R (some c) ≠ []
    · have el : layB s c a = .error "NotEnd" := by unfold layB; rw [layX_some e, if_pos he]
      rw [el, if_pos he]
      refine ⟨fun x ex => ?_, fun n s' ex => (by cases ex)⟩
      cases ex
      rfl
    · rw [if_neg he]
      have he' : hangR s.R (some c) = [] := Decidable.of_not_not he
      have made : rput (omap own s.R) c (w.1, w.2.1, own c + a) = omap (fun y => if y = c then own c + a else own y) s.R := by
        rw [rput_old (R := omap own s.R) (z := (w.1, w.2.1, own c)) (by rw [omap_get, e] <;> rfl)]
        unfold omap
        rw [List.map_map]
        refine List.map_congr_left fun q hq => ?_
        dsimp only [Function.comp]
        by_cases hqc : q.1 = c
        · have e2 := mem_rget h.nd (k := q.1) (w := q.2) hq
          rw [hqc, e] at e2
          cases e2
          rw [if_pos hqc, if_pos hqc]
        · rw [if_neg hqc, if_neg hqc]
      rw [made, omap_line h hc]
      have hL := h.of e
      have num : ∀ x ∈ lineR s.R (some c), modN (omap (fun y => if y = c then own c + a else own y) s.R) x = numR s.R x + a := fun x hx => by
        have hxk := hL.keys x hx
        rw [modN_sum h, O.a x hxk]
        have e1 : ls (keysR s.R) (fun y => if x ∈ lineR s.R (some y) then (if y = c then own c + a else own y) else 0) = ls (keysR s.R) (fun y => (if x ∈ lineR s.R (some y) then own y else 0) + if y = c then a else 0) := ls_congr fun y hy => by
          by_cases q : y = c
          · subst q
            rw [if_pos hx, if_pos rfl, if_pos hx, if_pos rfl]
          · rw [if_neg q, if_neg q, Int.add_zero]
        rw [e1, ls_add, ls_one h.nd, if_pos hc]
      have iff_ : (∃ x ∈ lineR s.R (some c), ¬ (0 ≤ modN (omap (fun y => if y = c then own c + a else own y) s.R) x ∧ modN (omap (fun y => if y = c then own c + a else own y) s.R) x ≤ 999)) ↔ ∃ x ∈ lineR s.R (some c), ¬ (0 ≤ numR s.R x + a ∧ numR s.R x + a ≤ 999) :=
        ⟨fun ⟨x, hx, z⟩ => ⟨x, hx, by rw [← num x hx]; exact z⟩, fun ⟨x, hx, z⟩ => ⟨x, hx, by rw [num x hx]; exact z⟩⟩
      by_cases q : ∃ x ∈ lineR s.R (some c), ¬ (0 ≤ numR s.R x + a ∧ numR s.R x + a ≤ 999)
      · have el : layB s c a = .error "TooMuch" := by unfold layB; rw [layX_some e, if_neg he, if_pos q]
        rw [el, if_pos (iff_.mpr q)]
        refine ⟨fun x ex => ?_, fun n s' ex => (by cases ex)⟩
        cases ex
        rfl
      · rw [if_neg (fun z => q (iff_.mp z))]
        refine ⟨fun x ex => ?_, fun n s' ex => ?_⟩
        · unfold layB at ex
          rw [layX_some e, if_neg he, if_neg q] at ex
          cases ex
        · obtain ⟨_, _, en, es⟩ := layB_ok ok ex
          obtain ⟨O', lo'⟩ := own_lay ok O lo ex
          refine ⟨_, by rw [en, O.end_ h hc he'], _, O', ?_, lo'⟩
          rw [es]
          exact (omap_grow _ _ _ _).symm
theorem move_match {s : Bs δ} {M : RowsD δ} (ok : OkB s) (m : Mod s.R M) (c : Int) (p : Option Int) : (∀ x, moveB s c p = .error x → moveM M c p = (wayS x, .non, M)) ∧
    ∀ n s', moveB s c p = .ok (n, s') → ∃ M', moveM M c p = ("done", .num n, M') ∧ Mod s'.R M' := by
  obtain ⟨own, O, rfl, lo⟩ := m
  have h := ok.now.wf
  unfold moveM
  rw [omap_get]
  cases e : rget s.R c with
  | none =>
    have el : moveB s c p = .error "NoCord" := by unfold moveB; rw [e]
    rw [el]
    refine ⟨fun x ex => ?_, fun n s' ex => (by cases ex)⟩
    cases ex
    rfl
  | some w =>
    dsimp only [Option.map_some]
    rw [moveB_eq e]
    have place : placeM (omap own s.R) c p = (moveX s c p).map wayS := by
      cases p with
      | none => rfl
      | some q =>
        unfold placeM
        dsimp only
        rw [omap_get]
        cases eq : rget s.R q with
        | none =>
          rw [moveX_none eq] <;> rfl
        | some z =>
          dsimp only [Option.map_some]
          rw [moveX_some eq, omap_line h (rget_key eq), omap_hang]
          by_cases q1 : c ∈ lineR s.R (some q)
          · rw [if_pos q1, if_pos q1] <;> rfl
          · rw [if_neg q1, if_neg q1]
            have hi := end_iff O h eq
            by_cases q2 : hangR s.R (some q) = [] ∧ z.2.2 ≠ 0
            · rw [if_pos q2, if_pos (hi.mpr q2)] <;> rfl
            · rw [if_neg q2, if_neg (fun z => q2 (hi.mp z))] <;> rfl
    rw [place]
    cases ep : moveX s c p with
    | some y =>
      refine ⟨fun x ex => ?_, fun n s' ex => (by cases ex)⟩
      cases ex
      rfl
    | none =>
      dsimp only [Option.map_none]
      obtain ⟨hLg, hcg⟩ := moveX_free ep h
      have hp1 : ∀ q, p = some q → ∃ z, rget s.R q = some z ∧ (hangR s.R (some q) = [] → z.2.2 = 0) := by
        rintro q rfl
        cases hq : rget s.R q with
        | none => rw [moveX_none hq] at ep; cases ep
        | some z =>
          rw [moveX_some hq] at ep
          split at ep
          · cases ep
          · split at ep
            · cases ep
            · rename_i hk
              exact ⟨z, rfl, fun he => Decidable.of_not_not fun y => hk ⟨he, y⟩⟩
      obtain ⟨O', ek, hn, lo'⟩ := own_move ok O lo e hLg hcg hp1
      have wf' := (ok.now.move e hLg hcg).wf
      have made : rput (omap own s.R) c (p, w.2.1, own c) = omap own (moveR s.R c p w) := by
        have h2 : shape s.R = shape (growR (growR s.R (lineR s.R w.1) (-w.2.2)) (lineR s.R p) w.2.2) := by rw [shape_grow, shape_grow]
        obtain ⟨z, ez⟩ := key_rget (R := growR (growR s.R (lineR s.R w.1) (-w.2.2)) (lineR s.R p) w.2.2) (k := c) (by rw [← shape_keys h2]; exact rget_key e)
        unfold moveR
        rw [omap_put own ez, omap_grow, omap_grow]
      rw [made, omap_keys, ek]
      have iff_ : (∃ x ∈ keysR s.R, 999 < modN (omap own (moveR s.R c p w)) x) ↔ ∃ x ∈ lineR s.R p, x ∉ lineR s.R w.1 ∧ numR s.R x + w.2.2 > 999 := by
        have hc0 := lo c (rget_key e)
        rw [numR_some e] at hc0
        constructor
        · rintro ⟨x, hx, z⟩
          rw [modN_eq O' wf' (by rw [ek]; exact hx), hn x hx] at z
          have := lo x hx
          by_cases q1 : x ∈ lineR s.R w.1
          · rw [if_pos q1] at z
            exfalso
            split at z <;> omega
          · rw [if_neg q1] at z
            by_cases q2 : x ∈ lineR s.R p
            · rw [if_pos q2] at z
              exact ⟨x, q2, q1, by omega⟩
            · rw [if_neg q2] at z
              exfalso
              omega
        · rintro ⟨x, q2, q1, z⟩
          have hx : x ∈ keysR s.R := hLg.keys x q2
          refine ⟨x, hx, ?_⟩
          rw [modN_eq O' wf' (by rw [ek]; exact hx), hn x hx, if_neg q1, if_pos q2]
          omega
      by_cases q : ∃ x ∈ lineR s.R p, x ∉ lineR s.R w.1 ∧ numR s.R x + w.2.2 > 999
      · rw [if_pos q, if_pos (iff_.mpr q)]
        refine ⟨fun x ex => ?_, fun n s' ex => (by cases ex)⟩
        cases ex
        rfl
      · rw [if_neg q, if_neg (fun z => q (iff_.mp z))]
        refine ⟨fun x ex => (by cases ex), fun n s' ex => ?_⟩
        cases ex
        refine ⟨_, by rw [modN_eq O h (rget_key e), numR_some e] <;> rfl, own, O', rfl, lo' fun x h1 h2 => ?_⟩
        exact Int.not_lt.mp fun z => q ⟨x, h1, h2, z⟩
theorem cut_match {s : Bs δ} {M : RowsD δ} (ok : OkB s) (m : Mod s.R M) (c : Int) : (∀ x, cutB s c = .error x → cutM M c = (wayS x, .non, M)) ∧
    ∀ l s', cutB s c = .ok (l, s') → ∃ M', cutM M c = ("done", .nms l, M') ∧ Mod s'.R M' := by
  obtain ⟨own, O, rfl, lo⟩ := m
  have h := ok.now.wf
  unfold cutM
  rw [omap_get]
  cases e : rget s.R c with
  | none =>
    have el : cutB s c = .error "NoCord" := by unfold cutB; rw [e]
    rw [el]
    refine ⟨fun x ex => ?_, fun n s' ex => (by cases ex)⟩
    cases ex
    rfl
  | some w =>
    dsimp only [Option.map_some]
    refine ⟨fun x ex => ?_, fun l s' ex => ?_⟩
    · unfold cutB at ex
      rw [e] at ex
      cases ex
    · obtain ⟨O', lo'⟩ := own_cut ok O lo ex
      obtain ⟨_, el, w', ew, es⟩ := cutB_ok ok ex
      rw [e] at ew
      cases ew
      refine ⟨_, by rw [omap_under h, el], own, O', ?_, lo'⟩
      rw [es]
      show _ = omap own (cutR s.R c w)
      unfold cutR
      rw [← omap_grow own s.R (lineR s.R w.1) (-w.2.2)]
      unfold omap
      rw [List.filter_map]
      rfl
/-! ### the deeds together -/
inductive Deed (δ : Type) where
  | hang (c : Int) (p : Option Int) (d : δ)
  | lay (c : Int) (p : Option Int) (a : Int)
  | move (c : Int) (p : Option Int) (a : Int)
  | cut (c : Int) (p : Option Int) (a : Int)
  | undo (c : Int) (p : Option Int) (a : Int)
def deedB (s : Bs δ) : Deed δ → Except String (MA × Bs δ)
  | .hang _ p d => (hangB s p d).map fun q => (.num q.1, q.2)
  | .lay c _ a => (layB s c a).map fun q => (.num q.1, q.2)
  | .move c p _ => (moveB s c p).map fun q => (.num q.1, q.2)
  | .cut c _ _ => (cutB s c).map fun q => (.nms q.1, q.2)
  | .undo _ _ _ => (undoB s).map fun q => (.num q.1, q.2)
def dueM (m : Bs δ) : Deed δ → Due δ
  | .hang _ p d => hangM m.R m.fol p d
  | .lay c _ a => layM m.R c a
  | .move c p _ => moveM m.R c p
  | .cut c _ _ => cutM m.R c
  | .undo _ _ _ => (match m.past.getLast? with
    | none => ("nothing", .non, m.R)
    | some q => ("done", .num ((m.past.length : Int) - 1), q.2))
def nextM (m : Bs δ) (M' : RowsD δ) : Deed δ → Bs δ
  | .hang _ _ _ => ⟨M', m.fol + 1, m.past ++ [(m.fol, m.R)]⟩
  | .undo _ _ _ => (match m.past.getLast? with
    | none => ⟨M', m.fol, m.past⟩
    | some q => ⟨M', q.1, m.past.dropLast⟩)
  | _ => ⟨M', m.fol, m.past ++ [(m.fol, m.R)]⟩
def PastR : List (Int × RowsD δ) → List (Int × RowsD δ) → Prop
  | [], [] => True
  | p :: ps, q :: qs => (p.1 = q.1 ∧ Mod p.2 q.2) ∧ PastR ps qs
  | _, _ => False
theorem PastR.len : ∀ {ps qs : List (Int × RowsD δ)}, PastR ps qs → ps.length = qs.length
  | [], [], _ => rfl
  | p :: ps, q :: qs, h => by rw [List.length_cons, List.length_cons, PastR.len h.2]
  | [], _ :: _, h => h.elim
  | _ :: _, [], h => h.elim
theorem PastR.snoc : ∀ {ps qs : List (Int × RowsD δ)}, PastR ps qs → ∀ {p q : Int × RowsD δ}, p.1 = q.1 → Mod p.2 q.2 → PastR (ps ++ [p]) (qs ++ [q])
  | [], [], _, _, _, h1, h2 => ⟨⟨h1, h2⟩, True.intro⟩
  | p :: ps, q :: qs, h, _, _, h1, h2 => ⟨h.1, PastR.snoc h.2 h1 h2⟩
  | [], _ :: _, h, _, _, _, _ => h.elim
  | _ :: _, [], h, _, _, _, _ => h.elim
theorem PastR.unsnoc : ∀ {ps qs : List (Int × RowsD δ)} {p : Int × RowsD δ}, PastR (ps ++ [p]) qs → ∃ qs' q, qs = qs' ++ [q] ∧ PastR ps qs' ∧ p.1 = q.1 ∧ Mod p.2 q.2
  | [], [], p, h => h.elim
  | [], q :: qs, p, h => by
    obtain ⟨h1, h2⟩ := (show (p.1 = q.1 ∧ Mod p.2 q.2) ∧ PastR [] qs from h)
    cases qs with
    | nil => exact ⟨[], q, rfl, True.intro, h1⟩
    | cons x r => exact h2.elim
  | a :: ps, [], p, h => h.elim
  | a :: ps, q :: qs, p, h => by
    obtain ⟨qs', q', e, h1, h2⟩ := PastR.unsnoc (show PastR (ps ++ [p]) qs from h.2)
    exact ⟨q :: qs', q', by rw [e] <;> rfl, ⟨h.1, h1⟩, h2⟩
structure RelS (s m : Bs δ) : Prop where
  now : Mod s.R m.R
  fol : s.fol = m.fol
  past : PastR s.past m.past
theorem RelS.start : RelS (⟨[], 0, []⟩ : Bs δ) ⟨[], 0, []⟩ := ⟨⟨fun _ => 0, ⟨fun x hx => (by cases hx), fun x hx => (by cases hx)⟩, rfl, fun x hx => (by cases hx)⟩, rfl, True.intro⟩
theorem map_ok {α β : Type} {e : Except String α} {f : α → β} {b : β} (h : e.map f = .ok b) : ∃ a, e = .ok a ∧ f a = b := by
  cases e with
  | error x => cases h
  | ok a => exact ⟨a, rfl, Except.ok.inj h⟩
theorem map_err {α β : Type} {e : Except String α} {f : α → β} {x : String} (h : e.map f = .error x) : e = .error x := by
  cases e with
  | error y => cases h; rfl
  | ok a => cases h
theorem deed_match {s m : Bs δ} (ok : OkB s) (r : RelS s m) (dd : Deed δ) : (∀ x, deedB s dd = .error x → dueM m dd = (wayS x, .non, m.R)) ∧
    ∀ a s', deedB s dd = .ok (a, s') → OkB s' ∧ ∃ M', dueM m dd = ("done", a, M') ∧ RelS s' (nextM m M' dd) := by
  have push : ∀ s' M', s'.fol = m.fol → Mod s'.R M' → s'.past = s.past ++ [(s.fol, s.R)] → RelS s' ⟨M', m.fol, m.past ++ [(m.fol, m.R)]⟩ := fun s' M' h1 h2 h3 => ⟨h2, h1, by rw [h3]; exact r.past.snoc r.fol r.now⟩
  cases dd with
  | hang c p d =>
    obtain ⟨h1, h2⟩ := hang_match ok r.now p d
    refine ⟨fun x e => ?_, fun a s' e => ?_⟩
    · show hangM m.R m.fol p d = _
      rw [← r.fol]
      exact h1 x (map_err e)
    · obtain ⟨⟨n, s2⟩, e1, e2⟩ := map_ok e
      cases e2
      obtain ⟨M', h3, h4⟩ := h2 n s2 e1
      obtain ⟨o2, _, es⟩ := hangB_ok ok e1
      refine ⟨o2, M', ?_, h4, ?_, ?_⟩
      · show hangM m.R m.fol p d = _
        rw [← r.fol]
        exact h3
      · rw [es]
        show s.fol + 1 = m.fol + 1
        rw [r.fol]
      · rw [es]
        exact r.past.snoc r.fol r.now
  | lay c p a =>
    obtain ⟨h1, h2⟩ := lay_match ok r.now c a
    refine ⟨fun x e => h1 x (map_err e), fun a s' e => ?_⟩
    obtain ⟨⟨n, s2⟩, e1, e2⟩ := map_ok e
    cases e2
    obtain ⟨M', h3, h4⟩ := h2 n s2 e1
    obtain ⟨o2, _, _, es⟩ := layB_ok ok e1
    exact ⟨o2, M', h3, push _ _ (by rw [es]; exact r.fol) h4 (by rw [es] <;> rfl)⟩
  | move c p a =>
    obtain ⟨h1, h2⟩ := move_match ok r.now c p
    refine ⟨fun x e => h1 x (map_err e), fun a s' e => ?_⟩
    obtain ⟨⟨n, s2⟩, e1, e2⟩ := map_ok e
    cases e2
    obtain ⟨M', h3, h4⟩ := h2 n s2 e1
    obtain ⟨o2, _, _, _, es, _⟩ := moveB_ok ok e1
    exact ⟨o2, M', h3, push _ _ (by rw [es]; exact r.fol) h4 (by rw [es] <;> rfl)⟩
  | cut c p a =>
    obtain ⟨h1, h2⟩ := cut_match ok r.now c
    refine ⟨fun x e => h1 x (map_err e), fun a s' e => ?_⟩
    obtain ⟨⟨n, s2⟩, e1, e2⟩ := map_ok e
    cases e2
    obtain ⟨M', h3, h4⟩ := h2 n s2 e1
    obtain ⟨o2, _, _, _, es⟩ := cutB_ok ok e1
    exact ⟨o2, M', h3, push _ _ (by rw [es]; exact r.fol) h4 (by rw [es] <;> rfl)⟩
  | undo c p a =>
    refine ⟨fun x e => ?_, fun a s' e => ?_⟩
    · have e := map_err e
      unfold undoB at e
      split at e
      · cases e
        rename_i hp
        have hn : s.past = [] := List.getLast?_eq_none_iff.mp hp
        have hm : m.past = [] := List.length_eq_zero_iff.mp (by rw [← r.past.len, hn] <;> rfl)
        show (match m.past.getLast? with | none => _ | some q => _) = _
        rw [hm]
        rfl
      · cases e
    · obtain ⟨⟨n, s2⟩, e1, e2⟩ := map_ok e
      cases e2
      obtain ⟨o2, en, ep⟩ := undoB_ok ok e1
      have hr := r.past
      rw [ep] at hr
      obtain ⟨qs, q, eq, h1, h2, h3⟩ := hr.unsnoc
      have el : m.past.getLast? = some q := by rw [eq, List.getLast?_concat]
      refine ⟨o2, q.2, ?_, ?_⟩
      · show (match m.past.getLast? with | none => _ | some q => _) = _
        rw [el]
        dsimp only
        rw [en, h1.len, eq, List.length_append, List.length_singleton]
        congr 3
        omega
      · show RelS s2 (match m.past.getLast? with | none => _ | some q => _)
        rw [el]
        dsimp only
        rw [eq, List.dropLast_concat]
        exact ⟨h3, h2, h1⟩
end Cor

/-! ## PuDk -/
/-! ### dicts of rows that may be locked; walks over them -/
namespace Cor
open PySem PySem.Spec PyProof.Rows L2
/-- list(d), d perhaps locked -/
def rListR : List V → Hp → VK → Prop := fun xs H Q => ∃ (d : Addr) (kvs : List (Key × V)), xs = [.ref d] ∧ Rd H d (.dK kvs) ∧ ∀ q, H q = none → Q (.ref q) (upd H q (.lst (kvs.map fun e => kV e.1)))
theorem call_list_dR {X : Cx} (hc : X.calm = true) : CallR X (.type "list") rListR := by
  intro pins s σ H xs us Q I r h
  obtain ⟨d, kvs, rfl, hk, q⟩ := h
  obtain ⟨u, rfl, rx⟩ := vals1 r
  obtain rfl : u = Value.ref d := rx
  obtain ⟨z, lo, vs, rk, hd⟩ := (show ObjOk X.prog X.w H s.heap d (.dK kvs) from hk.ok I.hok)
  obtain ⟨ep, hat⟩ := hd.dictAt
  have hl : kvs.length = vs.length := Paired.length rk
  refine PySem.W.kdl_call (PySem.W.kdl_dict (knd := mixKind X.prog X.w) (kvs := vs) (ep := ep) lo) (I.ok.hd hc) hat (by rw [← hl]; exact z) fun h2 tk acc c hkeep hS hacc => ?_
  have new : ObjOk X.prog X.w (upd H s.heap.objs.size (.lst (kvs.map fun e => kV e.1))) h2 s.heap.objs.size (.lst (kvs.map fun e => kV e.1)) := by
    refine ⟨by rw [List.length_map]; exact z, acc.toList, c, ?_, ?_⟩
    · have el : acc.toList.length = acc.size := by simp
      refine vals_of_at (by rw [List.length_map, el, hacc.1, hl]) fun j x w h1 h3 => ?_
      obtain ⟨k, y, hky, hi⟩ := hacc.2 j w (by rw [← Array.getElem?_toList]; exact h3)
      have e1 : (kvs.map (·.1))[j]? = some k := by rw [KV.keys rk, List.getElem?_map, hky] <;> rfl
      rw [show (kvs.map fun e => kV e.1) = (kvs.map (·.1)).map kV by rw [List.map_map] <;> rfl, List.getElem?_map, e1] at h1
      cases h1
      exact keyIs_rel hi
    · rw [Array.toArray_toList]
      exact hS
  exact ⟨.ref s.heap.objs.size, _, I.laid hkeep (Nat.le_refl _) new, rfl, q _ (I.hok.fresh (Nat.le_refl _))⟩
/-- rows at d, perhaps locked; not locked -/
def MD (H : Hp) (d : Addr) (M : Rows) : Prop := ∃ kvs, Rd H d (.dK kvs) ∧ RowsAt H kvs M
def UD (H : Hp) (d : Addr) (M : Rows) : Prop := ∃ kvs, H d = some (.dK kvs) ∧ RowsAt H kvs M
section
variable {K : PySem.W.Frag} {H H' : Hp} {d : Addr} {M : Rows} {Q : VK}
theorem UD.md (h : UD H d M) : MD H d M := by
  obtain ⟨kvs, h1, h2⟩ := h
  exact ⟨kvs, .inl h1, h2⟩
theorem MD.same (h : MD H d M) (s : Same H H') : MD H' d M := by
  obtain ⟨kvs, h1, h2⟩ := h
  refine ⟨kvs, ?_, h2.mono fun t xs => s _ _⟩
  rcases h1 with h1 | ⟨o, h1⟩
  · exact .inl (s _ _ h1)
  · exact .inr ⟨o, s _ _ h1⟩
theorem UD.same (h : UD H d M) (s : Same H H') : UD H' d M := by
  obtain ⟨kvs, h1, h2⟩ := h
  exact ⟨kvs, s _ _ h1, h2.mono fun t xs => s _ _⟩
theorem UD.keep {fp : List Addr} (h : UD H d M) (k : Keeps fp H H') (hd : d ∉ fp) (ht : ∀ t xs, H t = some (.tup xs) → t ∉ fp) : UD H' d M := by
  obtain ⟨kvs, h1, h2⟩ := h
  exact ⟨kvs, k _ _ h1 hd, h2.mono fun t xs e => k _ _ e (ht _ _ e)⟩
theorem MD.get (h : MD H d M) (k : Int) : ∃ o, DGet H d (.int k) o ∧ (rget M k = none → o = none) ∧ ∀ w, rget M k = some w → ∃ t, o = some (.ref t) ∧ H t = some (.tup (rowV w)) := by
  obtain ⟨kvs, h1, h2⟩ := h
  exact ⟨valV kvs (Sum.inl k), .inl ⟨kvs, Sum.inl k, h1, rfl, rfl⟩, (h2.get k).1, (h2.get k).2⟩
/-- d[k][j] -/
theorem MD.row {k : Int} {w : RwD Str} {j : Int} {v : V} (h : MD H d M) (e : rget M k = some w) (hv : atI (rowV w) j = some v) (q : Q v H) : ∃ a x, V.ref d = .ref a ∧ DGet H a (.int k) (some x) ∧ rIxT K x (.int j) H Q := by
  obtain ⟨o, h1, _, h2⟩ := h.get k
  obtain ⟨t, rfl, ht⟩ := h2 w e
  exact ⟨d, _, rfl, h1, g_ixT (SqT.of ht) hv q⟩
theorem MD.rowC {k : Int} {w : RwD Str} {j : Int} {v y : V} {σ : L2.St} (h : MD H d M) (e : rget M k = some w) (hy : y = .int k) (hv : atI (rowV w) j = some v) (q : Q v H) : ∃ a x, V.ref d = .ref a ∧ DGet H a y (some x) ∧ tC (.int j) σ H fun y2 H2 => rIxT K x y2 H2 Q := by
  subst hy
  exact h.row e hv q
/-- k not in d -/
theorem MD.notin {k : Int} {A : Bool → Prop} (h : MD H d M) (q : A (!(rget M k).isSome)) : ∃ a o, V.ref d = .ref a ∧ DGet H a (.int k) o ∧ ∃ b, V.bl (!o.isSome) = .bl b ∧ A b := by
  obtain ⟨o, h1, h2, h3⟩ := h.get k
  refine ⟨d, o, rfl, h1, _, rfl, ?_⟩
  cases e : rget M k with
  | none => rw [h2 e]; rw [e] at q; exact q
  | some w =>
    obtain ⟨t, eo, _⟩ := h3 w e
    rw [eo]; rw [e] at q; exact q
theorem MD.lst (h : MD H d M) (q : ∀ p, H p = none → Q (.ref p) (upd H p (.lst ((keysR M).map V.int)))) : rListR [.ref d] H Q := by
  obtain ⟨kvs, h1, h2⟩ := h
  exact ⟨d, kvs, rfl, h1, by rw [h2.keys]; exact q⟩
theorem lock_same {u : HO} {od : Obj} (h : H d = some u) (s : Same (upd H d (.frz od u)) H') : Same H (upd H' d u) := fun a x ha => by
  by_cases e : a = d
  · subst e
    rw [h] at ha
    cases ha
    exact upd_same
  · rw [upd_ne e]
    exact s _ _ (by rw [upd_ne e]; exact ha)
theorem same_lock {u : HO} {od : Obj} {Hb : Hp} (s : Same Hb H) (h : Hb d = some u) : Same (upd Hb d (.frz od u)) (upd H d (.frz od u)) := fun a x ha => by
  by_cases e : a = d
  · subst e
    rw [upd_same] at ha ⊢
    exact ha
  · rw [upd_ne e] at ha ⊢
    exact s _ _ ha
theorem MD.locked {kvs : List (Key × V)} {od : Obj} (h : H d = some (.dK kvs)) (r : RowsAt H kvs M) : MD (upd H d (.frz od (.dK kvs))) d M :=
  ⟨kvs, .inr ⟨od, upd_same⟩, r.mono fun t xs e => by (rw [upd_ne (ne_of e h (by intro z; cases z))]; exact e)⟩
/-- a walk over a dict, which is locked all the while -/
theorem g_forK {i : Nat} {g : TG} {tb : TS} {D : Ends} {σ : L2.St} {kvs : List (Key × V)} (hσ : σ[i]? = some (some (.ref d))) (hd : H d = some (.dK kvs)) (Hb : Hp) (sb : Same Hb H) (hb : Hb d = some (.dK kvs)) (I : Nat → L2.St → Hp → Prop)
    (h0 : ∀ od, I 0 σ (upd H d (.frz od (.dK kvs))))
    (hs : ∀ od j k v σ1 H1 (N : L2.St → Hp → Prop), kvs[j]? = some (k, v) → Same (upd Hb d (.frz od (.dK kvs))) H1 → I j σ1 H1 → (∀ σ2 H2, Same (upd Hb d (.frz od (.dK kvs))) H2 → I (j + 1) σ2 H2 → N σ2 H2) →
      g (kV k) σ1 H1 fun σ2 H2 => tb { nx := N, rt := fun v H3 => H3 d = some (.frz od (.dK kvs)) ∧ D.rt v (upd H3 d (.dK kvs)), bk := fun σ3 H3 => H3 d = some (.frz od (.dK kvs)) ∧ D.nx σ3 (upd H3 d (.dK kvs)), ct := N } σ2 H2)
    (he : ∀ od σ1 H1, Same (upd Hb d (.frz od (.dK kvs))) H1 → I kvs.length σ1 H1 → D.nx σ1 (upd H1 d (.dK kvs))) : tLock (tFor (iKeys (tVar i)) g tb) D σ H := by
  refine ⟨d, .dK kvs, hd, trivial, fun od => ?_⟩
  refine ⟨.ref d, hσ, d, od, rfl, .inl ⟨kvs, upd_same, ?_⟩⟩
  refine ⟨fun j m σ1 H1 => j ≤ kvs.length ∧ m = kvs.length - j ∧ Same (upd Hb d (.frz od (.dK kvs))) H1 ∧ I j σ1 H1, ⟨_, Nat.zero_le _, rfl, same_lock sb hb, h0 od⟩, ?_⟩
  rintro j m σ1 H1 ⟨hj, hm, s1, i1⟩
  have hd1 : H1 d = some (.frz od (.dK kvs)) := s1 _ _ upd_same
  by_cases e : j < kvs.length
  · refine .inr ⟨⟨hd1, e⟩, fun σ2 H2 => Same (upd Hb d (.frz od (.dK kvs))) H2 ∧ I (j + 1) σ2 H2, fun σ2 H2 z => ⟨kvs.length - (j + 1), by omega, by omega, rfl, z⟩, ?_⟩
    rintro x H2 ⟨rfl, k, v, ek, rfl⟩
    exact hs od j k v σ1 H2 _ ek s1 i1 fun σ2 H3 z1 z2 => ⟨z1, z2⟩
  · have ej : j = kvs.length := by omega
    subst ej
    exact .inl ⟨⟨hd1, Nat.le_refl _⟩, hd1, he od σ1 H1 s1 i1⟩
/-- a comprehension over a dict, which is locked all the while -/
theorem g_lcK {i : Nat} {g : TG} {tt : TT} {te : TE} {ws : List Nat} {σ : L2.St} {kvs : List (Key × V)} (hσ : σ[i]? = some (some (.ref d))) (hd : H d = some (.dK kvs)) (f : Nat → Option V) (hn : kvs.length ≤ 5000)
    (hs : ∀ od j k v, kvs[j]? = some (k, v) → ∀ H2 (R : Option V → Hp → Prop), Same (upd H d (.frz od (.dK kvs))) H2 → (∀ H3, Same H2 H3 → R (f j) H3) →
      g (kV k) (wipe σ ws) H2 fun σ2 H3 => wipe σ2 ws = wipe σ ws ∧ tt σ2 H3 fun b H4 => if b = true then te σ2 H4 fun y H5 => R (some y) H5 else R none H4)
    (hq : ∀ L H', Same H H' → H L = none → H' L = some (.lst ((List.range kvs.length).filterMap f)) → Q (.ref L) H') : tLockE (tLc (iKeys (tVar i)) g tt te ws) σ H Q := by
  refine ⟨d, .dK kvs, hd, trivial, fun od => ?_⟩
  refine ⟨.ref d, hσ, d, od, rfl, .inl ⟨kvs, upd_same, fun L hL => ?_⟩⟩
  have hLd : L ≠ d := fun z => by rw [z, upd_same] at hL; cases hL
  have hL0 : H L = none := by rw [upd_ne hLd] at hL; exact hL
  refine ⟨fun j m H1 => j ≤ kvs.length ∧ m = kvs.length - j ∧ Same (upd H d (.frz od (.dK kvs))) H1 ∧ H1 L = some (.lst ((List.range j).filterMap f)), ⟨_, Nat.zero_le _, rfl, same_new hL, upd_same⟩, ?_⟩
  rintro j m H1 ⟨hj, hm, s1, h1⟩
  have hd1 : H1 d = some (.frz od (.dK kvs)) := s1 _ _ upd_same
  by_cases e : j < kvs.length
  · refine .inr ⟨⟨hd1, e⟩, fun H2 => Same (upd H d (.frz od (.dK kvs))) H2 ∧ H2 L = some (.lst ((List.range (j + 1)).filterMap f)), fun H2 z => ⟨kvs.length - (j + 1), by omega, by omega, rfl, z⟩, ?_⟩
    rintro x H2 ⟨rfl, k, v, ek, rfl⟩
    have hfl : ((List.range j).filterMap f).length ≤ 5000 := by
      have := List.length_filterMap_le f (List.range j)
      rw [List.length_range] at this
      omega
    have er : ∀ o : Option V, f j = o → (List.range (j + 1)).filterMap f = (List.range j).filterMap f ++ o.toList := fun o eo => by
      rw [List.range_succ, List.filterMap_append]
      congr 1
      cases o with
      | none => rw [List.filterMap_cons_none eo] <;> rfl
      | some y => rw [List.filterMap_cons_some eo] <;> rfl
    refine hs od j k v ek _ (fun o H5 => match o with
      | some y => ∃ acc, H5 L = some (.lst acc) ∧ acc.length < sizeLine ∧ (Same (upd H d (.frz od (.dK kvs))) (upd H5 L (.lst (acc ++ [y]))) ∧ (upd H5 L (.lst (acc ++ [y]))) L = some (.lst ((List.range (j + 1)).filterMap f)))
      | none => Same (upd H d (.frz od (.dK kvs))) H5 ∧ H5 L = some (.lst ((List.range (j + 1)).filterMap f))) s1 fun H3 s3 => ?_
    cases eh : f j with
    | none => exact ⟨s1.trans s3, by rw [s3 _ _ h1, er _ eh]; show _ = some (HO.lst (_ ++ [])); rw [List.append_nil]⟩
    | some y => exact ⟨_, s3 _ _ h1, sz_lt (by omega), same_mut (s1.trans s3) hL, by rw [upd_same, er _ eh] <;> rfl⟩
  · have ej : j = kvs.length := by omega
    subst ej
    exact .inl ⟨⟨hd1, Nat.le_refl _⟩, hd1, hq L _ (lock_same hd s1) hL0 (by rw [upd_ne hLd]; exact h1)⟩
end
end Cor

/-! ## PuLc -/
/-! ### a comprehension over a list of known things -/
namespace Cor
open PySem PySem.Spec PyProof.Rows L2
section
variable {K : PySem.W.Frag} {σ : L2.St} {H : Hp} {g : TG} {tt : TT} {te : TE} {ws : List Nat} {L : Addr} {Q : VK}
theorem lcK_map {α : Type} (f : α → V) (h : α → Option V) {H0 H1 : Hp} {a : Addr} {xs : List α} (hL : H0 L = none) (ha : SqL K H0 a (xs.map f))
    (hs : ∀ x ∈ xs, ∀ H2 (R : Option V → Hp → Prop), Same H0 H2 → (∀ H3, Same H2 H3 → R (h x) H3) → g (f x) (wipe σ ws) H2 fun σ2 H3 => wipe σ2 ws = wipe σ ws ∧ tt σ2 H3 fun b H4 => if b = true then te σ2 H4 fun y H5 => R (some y) H5 else R none H4)
    (hn : xs.length ≤ 5000) (s1 : Same H0 H1) (h1 : H1 L = some (.lst [])) (hq : ∀ H', Same H0 H' → H' L = some (.lst (xs.filterMap h)) → Q (.ref L) H') : lcRun K a (xs.map f) g tt te ws σ L Q (xs.map f) H1 := by
  have key : ∀ (r l : List α) (H2 : Hp), l ++ r = xs → Same H0 H2 → H2 L = some (.lst (l.filterMap h)) → lcRun K a (xs.map f) g tt te ws σ L Q (r.map f) H2 := by
    intro r
    induction r with
    | nil =>
      intro l H2 e s2 h2
      rw [List.append_nil] at e
      subst e
      exact ⟨s2.seq ha, hq _ s2 h2⟩
    | cons x r ih =>
      intro l H2 e s2 h2
      have e2 : (l ++ [x]) ++ r = xs := by rw [← e, List.append_assoc] <;> rfl
      have hx : x ∈ xs := by rw [← e]; simp
      have hfl : (l.filterMap h).length ≤ 5000 := by
        have := List.length_filterMap_le h l
        have := congrArg List.length e
        rw [List.length_append] at this
        omega
      refine ⟨s2.seq ha, ?_⟩
      refine hs x hx H2 (fun o H5 => match o with
        | some y => ∃ acc, H5 L = some (.lst acc) ∧ acc.length < sizeLine ∧ lcRun K a (xs.map f) g tt te ws σ L Q (r.map f) (upd H5 L (.lst (acc ++ [y])))
        | none => lcRun K a (xs.map f) g tt te ws σ L Q (r.map f) H5) s2 fun H3 s3 => ?_
      cases eh : h x with
      | none => exact ih (l ++ [x]) H3 e2 (s2.trans s3) (by rw [s3 _ _ h2, List.filterMap_append, List.filterMap_cons_none eh, List.filterMap_nil, List.append_nil])
      | some y => exact ⟨_, s3 _ _ h2, sz_lt (by omega), ih (l ++ [x]) _ e2 (same_mut (s2.trans s3) hL) (by rw [upd_same, List.filterMap_append, List.filterMap_cons_some eh, List.filterMap_nil])⟩
  exact key xs [] H1 rfl s1 h1
end
end Cor

/-! ## MStep -/
/-! ### deeds -/
namespace Cor
section
variable {δ : Type}
/-- a deed done, no undoing -/
inductive StepN (P : δ → Prop) (s : Bs δ) : Bs δ → Prop
  | hang {o : Option Int} {d : δ} {n : Int} {s' : Bs δ} : hangB s o d = .ok (n, s') → P d → StepN P s s'
  | lay {c a n : Int} {s' : Bs δ} : layB s c a = .ok (n, s') → StepN P s s'
  | move {c n : Int} {p : Option Int} {s' : Bs δ} : moveB s c p = .ok (n, s') → StepN P s s'
  | cut {c : Int} {g : List Int} {s' : Bs δ} : cutB s c = .ok (g, s') → StepN P s s'
inductive Step (P : δ → Prop) (s : Bs δ) : Bs δ → Prop
  | deed {s' : Bs δ} : StepN P s s' → Step P s s'
  | undo {n : Int} {s' : Bs δ} : undoB s = .ok (n, s') → Step P s s'
def Dyes (P : δ → Prop) (R : RowsD δ) : Prop := ∀ p ∈ R, P p.2.2.1
/-- what holds of the rows of a book, behind at most n deeds -/
structure Fine (P : δ → Prop) (R : RowsD δ) (f : Int) (n : Nat) : Prop where
  good : Good R
  dyes : Dyes P R
  fol : f ≤ n
structure StI (P : δ → Prop) (s : Bs δ) (n : Nat) : Prop where
  ok : OkB s
  now : Fine P s.R s.fol n
  past : ∀ p ∈ s.past, Fine P p.2 p.1 n
  len : s.past.length ≤ n
theorem Fine.more {P : δ → Prop} {R : RowsD δ} {f : Int} {n : Nat} (h : Fine P R f n) : Fine P R f (n + 1) := ⟨h.good, h.dyes, by have := h.fol; omega⟩
theorem dyes_grow {P : δ → Prop} {R : RowsD δ} (h : Dyes P R) (L : List Int) (a : Int) : Dyes P (growR R L a) := by
  intro p hp
  unfold growR at hp
  obtain ⟨q, hq, rfl⟩ := List.mem_map.mp hp
  show P (if q.1 ∈ L then addR q.2 a else q.2).2.1
  split
  · exact h q hq
  · exact h q hq
theorem StepN.all {P : δ → Prop} {s s' : Bs δ} {n : Nat} (h : StepN P s s') (I : StI P s n) : StI P s' (n + 1) ∧ s'.past = s.past ++ [(s.fol, s.R)] := by
  have hp : ∀ p ∈ s.past ++ [(s.fol, s.R)], Fine P p.2 p.1 (n + 1) := fun p hp => by
    rcases List.mem_append.mp hp with hp | hp
    · exact (I.past p hp).more
    · rw [List.mem_singleton.mp hp]; exact I.now.more
  have hl : (s.past ++ [(s.fol, s.R)]).length ≤ n + 1 := by
    have := I.len
    rw [List.length_append, List.length_singleton]
    omega
  have hf := I.now.fol
  cases h with
  | @hang o d n' s' e hd =>
    have hg := I.now.good.hang I.ok e
    obtain ⟨ok', _, rfl⟩ := hangB_ok I.ok e
    have hF : Fine P (hangOk s o d).R (hangOk s o d).fol (n + 1) := ⟨hg, fun p hp => by
      rcases List.mem_append.mp (show p ∈ s.R ++ [_] from hp) with hp | hp
      · exact I.now.dyes p hp
      · rw [List.mem_singleton.mp hp]; exact hd, by show s.fol + 1 ≤ _; omega⟩
    exact ⟨⟨ok', hF, hp, hl⟩, rfl⟩
  | lay e =>
    have hg := I.now.good.lay I.ok e
    obtain ⟨ok', _, _, rfl⟩ := layB_ok I.ok e
    have hF : Fine P (keep s (growR s.R _ _)).R s.fol (n + 1) := ⟨hg, dyes_grow I.now.dyes _ _, by omega⟩
    exact ⟨⟨ok', hF, hp, hl⟩, rfl⟩
  | @move c m p s' e =>
    have hg := I.now.good.move I.ok e
    obtain ⟨ok', w, ew, _, rfl, _⟩ := moveB_ok I.ok e
    have hF : Fine P (keep s (moveR s.R c p w)).R s.fol (n + 1) := ⟨hg, fun q hq => by
      have hq : q ∈ rput (growR (growR s.R (lineR s.R w.1) (-w.2.2)) (lineR s.R p) w.2.2) c (p, w.2.1, w.2.2) := hq
      have hd := dyes_grow (dyes_grow I.now.dyes (lineR s.R w.1) (-w.2.2)) (lineR s.R p) w.2.2
      have hw : P w.2.1 := I.now.dyes _ (rget_mem ew)
      unfold rput at hq
      split at hq
      · obtain ⟨y, hy, rfl⟩ := List.mem_map.mp hq
        split
        · exact hw
        · exact hd y hy
      · rcases List.mem_append.mp hq with hq | hq
        · exact hd q hq
        · rw [List.mem_singleton.mp hq]; exact hw, by omega⟩
    exact ⟨⟨ok', hF, hp, hl⟩, rfl⟩
  | @cut c g s' e =>
    have hg := I.now.good.cut I.ok e
    obtain ⟨ok', _, w, ew, rfl⟩ := cutB_ok I.ok e
    have hF : Fine P (keep s (cutR s.R c w)).R s.fol (n + 1) := ⟨hg, fun q hq => dyes_grow I.now.dyes _ _ q ((List.mem_filter.mp (show q ∈ (growR s.R (lineR s.R w.1) (-w.2.2)).filter _ from hq)).1), by omega⟩
    exact ⟨⟨ok', hF, hp, hl⟩, rfl⟩
theorem Step.all {P : δ → Prop} {s s' : Bs δ} {n : Nat} (h : Step P s s') (I : StI P s n) : StI P s' (n + 1) := by
  cases h with
  | deed h => exact (h.all I).1
  | undo e =>
    obtain ⟨ok', _, ep⟩ := undoB_ok I.ok e
    have h1 : ∀ p ∈ s'.past, p ∈ s.past := fun p hp => by rw [ep]; exact List.mem_append_left _ hp
    have h2 : (s'.fol, s'.R) ∈ s.past := by rw [ep]; simp
    refine ⟨ok', (I.past _ h2).more, fun p hp => (I.past p (h1 p hp)).more, ?_⟩
    have := I.len
    rw [ep, List.length_append, List.length_singleton] at this
    omega
theorem StI.more {P : δ → Prop} {s : Bs δ} {n : Nat} (I : StI P s n) : StI P s (n + 1) := ⟨I.ok, I.now.more, fun p hp => (I.past p hp).more, by have := I.len; omega⟩
theorem StI.start (P : δ → Prop) : StI P (⟨[], 0, []⟩ : Bs δ) 0 :=
  ⟨⟨⟨⟨List.Pairwise.nil, fun k hk => (by cases hk)⟩, fun k hk => (by cases hk)⟩, fun p hp => (by cases hp), Int.le_refl _, fun p hp => (by cases hp)⟩, ⟨Good.empty, fun p hp => (by cases hp), Int.le_refl _⟩, fun p hp => (by cases hp), Nat.le_refl _⟩
theorem StI.rows {P : δ → Prop} {s : Bs δ} {n : Nat} (I : StI P s n) : s.R.length ≤ n := by
  have h1 := I.ok.now.len
  have h2 := I.now.fol
  have h3 := I.ok.f0
  omega
end
end Cor

/-! ## PuO -/
/-! ### lists of overs, lines along them; a book beside such lists -/
namespace Cor
open PySem PySem.Spec PyProof.Rows L2
abbrev ovR (ov : List (Option Int)) : RowsD Unit := mkF 0 (ov.map fun o => (o, (), 0))
/-- each over stands ahead -/
def Ov (ov : List (Option Int)) : Prop := ∀ (k : Nat) (p : Int), ov[k]? = some (some p) → 0 ≤ p ∧ p < k
section
variable {δ : Type}
theorem shape_mkF : ∀ (k : Int) (l : List (RwD δ)), shape (mkF k l) = shape (mkF k (l.map fun r => ((r.1, (), 0) : RwD Unit)))
  | k, [] => rfl
  | k, w :: r => by
    show (k, w.1) :: shape (mkF (k + 1) r) = (k, w.1) :: shape (mkF (k + 1) _)
    rw [shape_mkF (k + 1) r] <;> rfl
theorem shape_ov (rows : List (RwD δ)) : shape (mkF 0 rows) = shape (ovR (rows.map (·.1))) := by
  rw [shape_mkF]
  unfold ovR
  rw [List.map_map] <;> rfl
/-- own numbers laid on places -/
def growF : Int → List (RwD δ) → List Int → Int → List (RwD δ)
  | _, [], _, _ => []
  | k, w :: r, L, a => (if k ∈ L then addR w a else w) :: growF (k + 1) r L a
theorem grow_mkF (L : List Int) (a : Int) : ∀ (k : Int) (l : List (RwD δ)), growR (mkF k l) L a = mkF k (growF k l L a)
  | k, [] => rfl
  | k, w :: r => by
    show (k, if k ∈ L then addR w a else w) :: growR (mkF (k + 1) r) L a = _
    rw [grow_mkF L a (k + 1) r] <;> rfl
theorem growF_get (L : List Int) (a : Int) : ∀ (k : Int) (l : List (RwD δ)) (i : Nat), (growF k l L a)[i]? = (l[i]?).map fun w => if k + i ∈ L then addR w a else w
  | k, [], i => by simp [growF]
  | k, w :: r, 0 => by
    show some _ = _
    simp
  | k, w :: r, i + 1 => by
    show (growF (k + 1) r L a)[i]? = (r[i]?).map _
    rw [growF_get L a (k + 1) r i]
    have e : k + 1 + (i : Int) = k + ((i + 1 : Nat) : Int) := by omega
    rw [e]
theorem growF_len (L : List Int) (a : Int) : ∀ (k : Int) (l : List (RwD δ)), (growF k l L a).length = l.length
  | _, [] => rfl
  | k, w :: r => by
    show (growF (k + 1) r L a).length + 1 = _
    rw [growF_len L a (k + 1) r] <;> rfl
theorem growF_ov (L : List Int) (a : Int) : ∀ (k : Int) (l : List (RwD δ)), (growF k l L a).map (·.1) = l.map (·.1)
  | _, [] => rfl
  | k, w :: r => by
    show (if k ∈ L then addR w a else w).1 :: _ = _
    have e : (if k ∈ L then addR w a else w).1 = w.1 := by split <;> rfl
    rw [e]
    show w.1 :: (growF (k + 1) r L a).map (·.1) = w.1 :: r.map (·.1)
    rw [growF_ov L a (k + 1) r]
theorem growF_nil (a : Int) : ∀ (k : Int) (l : List (RwD δ)), growF k l [] a = l
  | _, [] => rfl
  | k, w :: r => by
    show (if k ∈ [] then addR w a else w) :: _ = _
    rw [if_neg (by simp), growF_nil a (k + 1) r]
theorem growF_snoc {rows : List (RwD δ)} {l : List Int} {x : Int} {a : Int} {w : RwD δ} (h0 : 0 ≤ x) (e : rows[x.toNat]? = some w) (hx : x ∉ l) :
    ((growF 0 rows l a).map fun r => V.int r.2.2).set x.toNat (.int (w.2.2 + a)) = (growF 0 rows (l ++ [x]) a).map fun r => V.int r.2.2 := by
  apply List.ext_getElem?
  intro i
  rw [List.getElem?_set, List.getElem?_map, List.getElem?_map, growF_get, growF_get, Int.zero_add, List.length_map, growF_len]
  have hl : x.toNat < rows.length := (List.getElem?_eq_some_iff.mp e).1
  by_cases q : x.toNat = i
  · subst q
    have ex : ((x.toNat : Nat) : Int) = x := Int.toNat_of_nonneg h0
    rw [if_pos rfl, if_pos hl, e, ex]
    show _ = some (V.int (if x ∈ l ++ [x] then addR w a else w).2.2)
    rw [if_pos (by simp)] <;> rfl
  · rw [if_neg q]
    cases h : rows[i]? with
    | none => rfl
    | some z =>
      show some (V.int (if (i : Int) ∈ l then addR z a else z).2.2) = some (V.int (if (i : Int) ∈ l ++ [x] then addR z a else z).2.2)
      have e2 : ((i : Int) ∈ l ++ [x]) ↔ (i : Int) ∈ l := by
        rw [List.mem_append, List.mem_singleton]
        exact ⟨fun h => h.elim id fun z => absurd (by omega) q, .inl⟩
      by_cases m : (i : Int) ∈ l
      · rw [if_pos m, if_pos (e2.mpr m)]
      · rw [if_neg m, if_neg (fun z => m (e2.mp z))]
theorem num_mkF {rows : List (RwD δ)} {i : Nat} {w : RwD δ} (e : rows[i]? = some w) : numR (mkF 0 rows) i = w.2.2 := by
  unfold numR
  rw [rget_mkF, if_pos (by omega), Int.sub_zero, Int.toNat_natCast, e]
theorem get_mkF {rows : List (RwD δ)} {k : Int} {w : RwD δ} (e : rget (mkF 0 rows) k = some w) : 0 ≤ k ∧ rows[k.toNat]? = some w ∧ k < rows.length := by
  rw [rget_mkF] at e
  split at e
  · rename_i h
    rw [Int.sub_zero] at e
    have := (List.getElem?_eq_some_iff.mp e).1
    exact ⟨h, e, by omega⟩
  · cases e
end
theorem mkF_put {δ : Type} {l : List (RwD δ)} {c : Int} {w : RwD δ} (h0 : 0 ≤ c) (h1 : c < l.length) : rput (mkF 0 l) c w = mkF 0 (l.set c.toNat w) := by
  have hg : rget (mkF 0 l) c = some (l[c.toNat]'(by omega)) := by
    rw [rget_mkF, if_pos h0, Int.sub_zero]
    exact List.getElem?_eq_getElem (by omega)
  rw [rput_old hg]
  have key : ∀ (l : List (RwD δ)) (k : Int), k ≤ c → (mkF k l).map (fun p => (p.1, if p.1 = c then w else p.2)) = mkF k (l.set (c - k).toNat w) := by
    intro l
    induction l with
    | nil => intro k _; rfl
    | cons x r ih =>
      intro k hk
      show (k, if k = c then w else x) :: (mkF (k + 1) r).map _ = _
      by_cases q : k = c
      · subst q
        rw [if_pos rfl, Int.sub_self]
        show _ = (k, w) :: mkF (k + 1) r
        congr 1
        refine (List.map_congr_left fun p hp => ?_).trans (List.map_id _)
        have hk1 : k + 1 ≤ p.1 := by
          have key2 : ∀ (l : List (RwD δ)) (j : Int), ∀ p ∈ mkF j l, j ≤ p.1 := by
            intro l
            induction l with
            | nil => intro j p hp; cases hp
            | cons y l ih =>
              intro j p hp
              rcases List.mem_cons.mp hp with rfl | hp
              · exact Int.le_refl _
              · have := ih (j + 1) p hp
                omega
          exact key2 r (k + 1) p hp
        rw [if_neg (by omega)] <;> rfl
      · have e : (c - k).toNat = (c - (k + 1)).toNat + 1 := by omega
        rw [if_neg q, ih (k + 1) (by omega), e, List.set_cons_succ] <;> rfl
  have := key l 0 h0
  rw [Int.sub_zero] at this
  exact this
theorem ov_wf {ov : List (Option Int)} (h : Ov ov) : Wf (ovR ov) := by
  have hk : keysR (ovR ov) = (List.range' 0 ov.length).map fun i : Nat => (i : Int) := by
    have := keys_mkF 0 (ov.map fun o => ((o, (), 0) : RwD Unit))
    rw [List.length_map] at this
    exact this
  refine ⟨?_, ?_⟩
  · rw [hk]
    refine List.pairwise_map.mpr ?_
    exact List.Pairwise.imp (fun h => by omega) (List.pairwise_lt_range' (s := 0) (n := ov.length))
  · have key : ∀ n : Nat, n < ov.length → ∃ L, Line (ovR ov) (some (n : Int)) L := by
      intro n
      induction n using Nat.strongRecOn with
      | ind n ih =>
        intro hn
        have e : rget (ovR ov) (n : Int) = some (ov[n], (), 0) := by
          rw [rget_mkF, if_pos (by omega), Int.sub_zero, Int.toNat_natCast, List.getElem?_map, List.getElem?_eq_getElem hn] <;> rfl
        cases eo : ov[n] with
        | none => exact ⟨[(n : Int)], .cons e (by show Line _ ov[n] _; rw [eo]; exact .nil)⟩
        | some p =>
          obtain ⟨p0, p1⟩ := h n p (by rw [List.getElem?_eq_getElem hn, eo])
          obtain ⟨L, hL⟩ := ih p.toNat (by omega) (by omega)
          rw [Int.toNat_of_nonneg p0] at hL
          exact ⟨(n : Int) :: L, .cons e (by show Line _ ov[n] _; rw [eo]; exact hL)⟩
    intro k hk1
    rw [hk] at hk1
    obtain ⟨i, hi, rfl⟩ := List.mem_map.mp hk1
    rw [List.mem_range'_1] at hi
    exact key i (by omega)
section
variable {K : PySem.W.Frag} {vs : List V} {H : Hp} {Q : VK} {E : XK}
def sp_law_overs (K : PySem.W.Frag) : Sp := fun vs H Q _ => ∃ a, ∃ ns : List Int, ∃ st n, vs = [.ref a, .int st, .int n] ∧ SqL K H a (ns.map V.int) ∧ 0 ≤ st ∧ 0 ≤ n ∧ n ≤ 100 ∧
  ∀ ov p H', ov.length = n.toNat → Ov ov → H p = none → Same H H' → H' p = some (.lst (ov.map oV)) → Q (.ref p) H'
/-- _law_overs: slots script, start, size, overs, k, pick -/
def p0_law_overs (K : PySem.W.Frag) (E : XK) : TS :=
  tSeq (tAsg (tOp rModI (tCall (sp_law_cell_at K) [] E0 (tCons (tVar 0) (tCons (tOp rAddI (tVar 1) (tVar 4)) tNil))) (tOp rAddI (tVar 4) (tC (.int 2)))) (gName 5)) (tIfS (tTest (tOp rLtI (tVar 5) (tVar 4))) (tDrop (tBM K "list" rAppend (tVar 3) (tCons (tVar 5) tNil))) (tDrop (tBM K "list" rAppend (tVar 3) (tCons (tC .non) tNil))))
def t_law_overs (K : PySem.W.Frag) (E : XK) : TS :=
  tSeq (tAsg (tLst tNil) (gName 3)) (tSeq (tFor (iRng1 (tCons (tVar 2) tNil)) (gName 4) (p0_law_overs K E)) (tRet (tVar 3)))
abbrev n_law_overs : List Str := ["script", "start", "size", "overs", "k", "pick"]

theorem len_law_overs (h : sp_law_overs K vs H Q E) : vs.length = (["script", "start", "size"] : List Str).length := by
  obtain ⟨_, _, _, _, rfl, _⟩ := h
  rfl
theorem Ov.snoc {ov : List (Option Int)} {o : Option Int} (h : Ov ov) (ho : ∀ p, o = some p → 0 ≤ p ∧ p < ov.length) : Ov (ov ++ [o]) := by
  intro k p hk
  by_cases hl : k < ov.length
  · rw [List.getElem?_append_left hl] at hk
    exact h k p hk
  · rw [List.getElem?_append_right (by omega)] at hk
    have e : k - ov.length = 0 := by
      have := (List.getElem?_eq_some_iff.mp hk).1
      rw [List.length_singleton] at this
      omega
    rw [e] at hk
    have := ho p (Option.some.inj hk)
    omega
theorem pure_law_overs (K : PySem.W.Frag) (vs : List V) (H : Hp) (Q : VK) (E : XK) (h : sp_law_overs K vs H Q E) : t_law_overs K E { nx := fun _ H' => Q .non H', rt := Q } (start n_law_overs vs) H := by
  obtain ⟨a, ns, st, n, rfl, hS, h0, n0, n1, q⟩ := h
  unfold t_law_overs
  walk_at "go"
  intro p hp
  walk_at "go"
  refine g_forR1 ?_
  walk_at "go"
  refine rng1_of (by omega) (by omega) ?_
  refine forR_run _ (fun i σ H' => ∃ w4 w5 ov, σ = [some (.ref a), some (.int st), some (.int n), some (.ref p), w4, w5] ∧ ov.length = i ∧ Ov ov ∧ Same H H' ∧ H' p = some (.lst (ov.map oV))) ?_ ?_ ⟨_, _, [], rfl, rfl, fun k p hk => (by cases hk), same_new hp, upd_same⟩
  · rintro i σ H1 N hi ⟨w4, w5, ov, rfl, hl, ho, s1, h1⟩ hN
    walk_at "go"
    unfold p0_law_overs
    walk_at "go"
    refine ⟨a, ns, st + i, rfl, s1.seq hS, by omega, ?_⟩
    walk_at "go"
    refine g_iteD (fun h2 => ?_) (fun h2 => ?_)
    · walk_at "go"
      refine ⟨ty_list (SqL.of h1), ?_⟩
      walk_at "go"
      refine g_append h1 (sz_lt (by rw [List.length_map]; omega)) ?_
      refine hN _ _ ⟨_, _, ov ++ [some (cell ns (st + i) % (i + 2))], rfl, by rw [List.length_append, hl] <;> rfl, ho.snoc fun p hp => ?_, same_mut s1 hp, by rw [upd_same, List.map_append] <;> rfl⟩
      cases hp
      exact ⟨Int.emod_nonneg _ (by omega), by omega⟩
    · walk_at "go"
      refine ⟨ty_list (SqL.of h1), ?_⟩
      walk_at "go"
      refine g_append h1 (sz_lt (by rw [List.length_map]; omega)) ?_
      exact hN _ _ ⟨_, _, ov ++ [none], rfl, by rw [List.length_append, hl] <;> rfl, ho.snoc fun p hp => (by cases hp), same_mut s1 hp, by rw [upd_same, List.map_append] <;> rfl⟩
  · rintro σ H1 ⟨w4, w5, ov, rfl, hl, ho, s1, h1⟩
    walk_at "go"
    exact q ov p H1 hl ho hp s1 h1
def sp_law_line (K : PySem.W.Frag) : Sp := fun vs H Q _ => ∃ p, ∃ ov : List (Option Int), ∃ o, ∃ L : List Int, vs = [.ref p, oV o] ∧ SqL K H p (ov.map oV) ∧ Line (ovR ov) o L ∧ ov.length ≤ 1000 ∧ ∀ q H', H q = none → Same H H' → H' q = some (.lst (L.map V.int)) → Q (.ref q) H'
/-- _law_line: slots overs, cord, found -/
def p0_law_line (K : PySem.W.Frag) (E : XK) : TS :=
  tSeq (tDrop (tBM K "list" rAppend (tVar 2) (tCons (tVar 1) tNil))) (tAsg (tOp (rIxL K) (tVar 0) (tVar 1)) (gName 1))
def t_law_line (K : PySem.W.Frag) (E : XK) : TS :=
  tSeq (tAsg (tLst tNil) (gName 2)) (tSeq (tWhile (tTest (tOp rNotN (tVar 1) (tC .non))) (p0_law_line K E)) (tRet (tVar 2)))
abbrev n_law_line : List Str := ["overs", "cord", "found"]

theorem len_law_line (h : sp_law_line K vs H Q E) : vs.length = (["overs", "cord"] : List Str).length := by
  obtain ⟨_, _, _, _, rfl, _⟩ := h
  rfl
theorem at_ov {ov : List (Option Int)} {x : Int} {w : RwD Unit} (e : rget (ovR ov) x = some w) : atI (ov.map oV) x = some (oV w.1) := by
  obtain ⟨h0, h1, h2⟩ := get_mkF e
  rw [← Int.toNat_of_nonneg h0]
  refine atI_nat ?_
  rw [List.getElem?_map] at h1 ⊢
  cases h : ov[x.toNat]? with
  | none => rw [h] at h1; cases h1
  | some z => rw [h] at h1; cases h1; rfl
theorem pure_law_line (K : PySem.W.Frag) (vs : List V) (H : Hp) (Q : VK) (E : XK) (h : sp_law_line K vs H Q E) : t_law_line K E { nx := fun _ H' => Q .non H', rt := Q } (start n_law_line vs) H := by
  obtain ⟨p, ov, o, L, rfl, hS, hL, hlen, q⟩ := h
  unfold t_law_line
  walk_at "go"
  intro f hf
  walk_at "go"
  have hb := hL.len
  rw [mkF_len, List.length_map] at hb
  refine wh_run (fun m σ H' => ∃ o acc r, σ = [some (.ref p), some (oV o), some (.ref f)] ∧ m = r.length ∧ Line (ovR ov) o r ∧ acc ++ r = L ∧ Same H H' ∧ H' f = some (.lst (acc.map V.int))) ?_ L.length ⟨o, [], L, rfl, rfl, hL, rfl, same_new hf, upd_same⟩
  rintro m σ H1 N P ⟨o, acc, r, rfl, rfl, hr, e, s1, h1⟩ hN hy hn
  walk_at "go"
  cases hr with
  | nil =>
    walk_at "go"
    refine hn H1 ?_
    walk_at "go"
    rw [List.append_nil] at e
    subst e
    exact q f H1 hf s1 h1
  | @cons x w r ew hr =>
    walk_at "go"
    refine hy H1 ?_
    unfold p0_law_line
    walk_at "go"
    refine ⟨ty_list (SqL.of h1), ?_⟩
    walk_at "go"
    have hlt : acc.length < 1000 := by
      have := congrArg List.length e
      rw [List.length_append, List.length_cons] at this
      omega
    refine g_append h1 (sz_lt (by rw [List.length_map]; omega)) ?_
    have s2 : Same H (upd H1 f (.lst (acc.map V.int ++ [V.int x]))) := same_mut s1 hf
    walk_at "go"
    refine g_ixL (s2.seq hS) (at_ov ew) ?_
    walk_at "go"
    exact hN r.length _ _ (by rw [List.length_cons]; omega) ⟨w.1, acc ++ [x], r, rfl, rfl, hr, by rw [← e, List.append_assoc] <;> rfl, s2, by rw [upd_same, List.map_append] <;> rfl⟩
def sp_law_says (K : PySem.W.Frag) : Sp := fun vs H Q _ => ∃ b fp s po pw, ∃ rows : List (RwD Str), vs = [.ref b, .ref po, .ref pw] ∧ Book K H b fp s ∧ OkB s ∧ s.R = mkF 0 rows ∧ rows.length ≤ 100 ∧
  SqL K H po (rows.map fun r => oV r.1) ∧ SqL K H pw (rows.map fun r => .int r.2.2) ∧ ∀ H', Same H H' → Q (.bl true) H'
/-- _law_says: slots book, overs, own, k, found -/
def p0_law_says (K : PySem.W.Frag) (E : XK) : TS :=
  tSeq (tAsg (tMeth (He.ga K "Book") "number" (sp_Book_number K) [] E0 (tVar 0) (tCons (tVar 3) tNil)) (gName 4)) (tIfS (tOr (tNot (tB (tCall (sp_law_whole K) [] E0 (tCons (tVar 4) tNil)))) (tTest (tOp rNe (tVar 4) (tOp (rIxL K) (tVar 2) (tVar 3))))) (tRet (tC (.bl false))) tNext)
def p1_law_says (K : PySem.W.Frag) (E : XK) : TS :=
  tSeq (tIfS (tNot (tB (tCall (sp_law_over_is K) [] E0 (tCons (tMeth (He.ga K "Book") "over" (sp_Book_over K) [] E0 (tVar 0) (tCons (tVar 3) tNil)) (tCons (tOp (rIxL K) (tVar 1) (tVar 3)) tNil))))) (tRet (tC (.bl false))) tNext) (p0_law_says K E)
def p2_law_says (K : PySem.W.Frag) (E : XK) : TS :=
  tRet (tCall (sp_law_same K) [] E0 (tCons (tMeth (He.ga K "Book") "cords" (sp_Book_cords K) [] E0 (tVar 0) tNil) (tCons (tLstRg (tRg1 (tCB (rLenL K) (tCons (tVar 1) tNil)))) tNil)))
def t_law_says (K : PySem.W.Frag) (E : XK) : TS :=
  tSeq (tFor (iRng1 (tCons (tCB (rLenL K) (tCons (tVar 1) tNil)) tNil)) (gName 3) (p1_law_says K E)) (p2_law_says K E)
abbrev n_law_says : List Str := ["book", "overs", "own", "k", "found"]

theorem len_law_says (h : sp_law_says K vs H Q E) : vs.length = (["book", "overs", "own"] : List Str).length := by
  obtain ⟨_, _, _, _, _, _, rfl, _⟩ := h
  rfl
theorem at_rows {rows : List (RwD Str)} {i : Nat} {r : RwD Str} (h : rows[i]? = some r) (f : RwD Str → V) : atI (rows.map f) (i : Int) = some (f r) := by
  refine atI_nat ?_
  rw [List.getElem?_map, h] <;> rfl
theorem pure_law_says (K : PySem.W.Frag) (vs : List V) (H : Hp) (Q : VK) (E : XK) (h : sp_law_says K vs H Q E) : t_law_says K E { nx := fun _ H' => Q .non H', rt := Q } (start n_law_says vs) H := by
  obtain ⟨b, fp, s, po, pw, rows, rfl, B, ok, eR, hl, ho, hw, q⟩ := h
  have hget : ∀ i : Nat, rget s.R (i : Int) = rows[i]? := fun i => by
    rw [eR, rget_mkF, if_pos (by omega), Int.sub_zero, Int.toNat_natCast]
  have hkeys : keysR s.R = (List.range' 0 rows.length).map fun i : Nat => (i : Int) := by rw [eR]; exact keys_mkF 0 rows
  have hrl : (rows.map fun r => oV r.1).length = rows.length := List.length_map _
  unfold t_law_says
  walk_at "go"
  refine g_forR1 ?_
  walk_at "go"
  refine g_lenL ho ?_
  walk_at "go"
  rw [hrl]
  refine rng1_of (by omega) (by omega) ?_
  rw [Int.toNat_natCast]
  refine forR_run rows.length (fun _ σ H' => ∃ w3 w4, σ = [some (.ref b), some (.ref po), some (.ref pw), w3, w4] ∧ Same H H') ?_ ?_ ⟨_, _, rfl, Same.refl _⟩
  · rintro i σ H1 N hi ⟨w3, w4, rfl, s1⟩ hN
    obtain ⟨r, er⟩ : ∃ r, rows[i]? = some r := ⟨_, List.getElem?_eq_getElem hi⟩
    have eg := (hget i).trans er
    have B1 := B.same s1
    walk_at "go"
    unfold p1_law_says
    walk_at "go"
    refine B1.meth ?_
    walk_at "go"
    refine ⟨b, fp, s, i, rfl, B1, fun w ew => ?_, fun e => by (rw [eg] at e; cases e)⟩
    rw [eg] at ew
    cases ew
    walk_at "go"
    refine g_ixL (s1.seq ho) (at_rows er _) ?_
    walk_at "go"
    refine ⟨r.1, rfl, ?_⟩
    walk_at "go"
    unfold p0_law_says
    walk_at "go"
    refine B1.meth ?_
    walk_at "go"
    refine ⟨b, fp, s, i, rfl, B1, fun w ew => ?_, fun e => by (rw [eg] at e; cases e)⟩
    rw [eg] at ew
    cases ew
    walk_at "go"
    refine ⟨_, rfl, ?_⟩
    walk_at "go"
    refine g_ixL (s1.seq hw) (at_rows er _) ?_
    walk_at "go"
    refine dec_NT rfl ?_
    walk_at "go"
    exact hN _ _ ⟨_, _, rfl, s1⟩
  · rintro σ H1 ⟨w3, w4, rfl, s1⟩
    show p2_law_says K E _ _ _
    unfold p2_law_says
    walk_at "go"
    refine (B.same s1).meth ?_
    walk_at "go"
    refine ⟨b, fp, s, rfl, B.same s1, ok.now.wf.asc, fun p6 H6 hp6 s6 h6 => ?_⟩
    walk_at "go"
    refine g_lenL ((s1.trans s6).seq ho) ?_
    walk_at "go"
    rw [hrl]
    refine ⟨rgOk0 (by omega), fun q7 hq7 => ?_⟩
    rw [rgV0, ← hkeys]
    walk_at "go"
    have n67 : p6 ≠ q7 := ne_of_none h6 hq7
    exact ⟨p6, q7, keysR s.R, rfl, by rw [upd_ne n67]; exact h6, SqL.of upd_same, by rw [hkeys, List.length_map, List.length_range']; omega, q _ (same_add (s1.trans s6) hq7)⟩
theorem ov_map (rows : List (RwD Str)) : (rows.map fun r => oV r.1) = (rows.map (·.1)).map oV := by rw [List.map_map] <;> rfl
theorem mem_ov_hang {rows : List (RwD Str)} (h : Wf (mkF 0 rows)) (k : Int) : some k ∈ rows.map (·.1) ↔ hangR (mkF 0 rows) (some k) ≠ [] := by
  rw [List.mem_map]
  constructor
  · rintro ⟨r, hr, e⟩ z
    obtain ⟨i, hi⟩ := List.mem_iff_getElem?.mp hr
    have : (i : Int) ∈ hangR (mkF 0 rows) (some k) := (mem_hang h.nd).mpr ⟨r, by rw [rget_mkF, if_pos (by omega), Int.sub_zero, Int.toNat_natCast, hi], e⟩
    rw [z] at this
    cases this
  · intro h1
    cases hh : hangR (mkF 0 rows) (some k) with
    | nil => exact absurd hh h1
    | cons x r =>
      obtain ⟨w, ew, ho⟩ := (mem_hang h.nd).mp (show x ∈ hangR (mkF 0 rows) (some k) by rw [hh]; exact List.mem_cons_self)
      exact ⟨w, List.mem_of_getElem? (get_mkF ew).2.1, ho⟩
end
end Cor

/-! ## PuDm -/
/-! ### law k12: the law's own book -/
namespace K12
open PySem PySem.Spec PyProof.Rows L2 Cor
section
variable {K : PySem.W.Frag} {vs : List V} {H : Hp} {Q : VK} {E : XK}
def sp_law_whole (K : PySem.W.Frag) : Sp := fun vs H Q _ => (∃ i, vs = [.int i] ∧ Q (.bl true) H) ∨ ∃ p xs, vs = [.ref p] ∧ H p = some (.lst xs) ∧ Q (.bl false) H
/-- _law_whole: slots found -/
def t_law_whole (K : PySem.W.Frag) (E : XK) : TS :=
  tRet (tAndV (tCB (rIsi K) (tCons (tVar 0) (tCons (tC (.ty "int")) tNil))) (tNotV (tCB (rIsi K) (tCons (tVar 0) (tCons (tC (.ty "bool")) tNil)))))
abbrev n_law_whole : List Str := ["found"]

theorem len_law_whole (h : sp_law_whole K vs H Q E) : vs.length = (["found"] : List Str).length := by
  rcases h with ⟨_, rfl, _⟩ | ⟨_, _, rfl, _⟩ <;> rfl
theorem pure_law_whole (K : PySem.W.Frag) (vs : List V) (H : Hp) (Q : VK) (E : XK) (h : sp_law_whole K vs H Q E) : t_law_whole K E { nx := fun _ H' => Q .non H', rt := Q } (start n_law_whole vs) H := by
  unfold t_law_whole
  rcases h with ⟨i, rfl, q⟩ | ⟨p, xs, rfl, hp, q⟩
  · walk_at "go"
    refine g_isi (b := true) (.base (.int i)) (show L2.kitB "int" "int" = some true by decide +kernel) ?_
    walk_at "go"
    refine g_isi (b := false) (.base (.int i)) (show L2.kitB "int" "bool" = some false by decide +kernel) ?_
    walk_at "go"
    exact q
  · walk_at "go"
    refine g_isi (b := false) (.base (.lst hp)) (show L2.kitB "list" "int" = some false by decide +kernel) ?_
    walk_at "go"
    exact q
def sp_law_same (K : PySem.W.Frag) : Sp := fun vs H Q _ => ∃ p q, ∃ L : List Int, vs = [.ref p, .ref q] ∧ H p = some (.lst (L.map V.int)) ∧ SqL K H q (L.map V.int) ∧ L.length ≤ 100000 ∧ Q (.bl true) H
/-- _law_same: slots found, due, k -/
def p0_law_same (K : PySem.W.Frag) (E : XK) : TS :=
  tIfS (tOr (tNot (tB (tCall (sp_law_whole K) [] E0 (tCons (tOp (rIxL K) (tVar 0) (tVar 2)) tNil)))) (tTest (tOp rNe (tOp (rIxL K) (tVar 0) (tVar 2)) (tOp (rIxL K) (tVar 1) (tVar 2))))) (tRet (tC (.bl false))) tNext
def p1_law_same (K : PySem.W.Frag) (E : XK) : TS :=
  tSeq (tFor (iRng1 (tCons (tCB (rLenL K) (tCons (tVar 1) tNil)) tNil)) (gName 2) (p0_law_same K E)) (tRet (tC (.bl true)))
def t_law_same (K : PySem.W.Frag) (E : XK) : TS :=
  tSeq (tIfS (tOr (tNot (tB (tCB (rIsi K) (tCons (tVar 0) (tCons (tC (.ty "list")) tNil))))) (tTest (tOp rNe (tCB (rLenL K) (tCons (tVar 0) tNil)) (tCB (rLenL K) (tCons (tVar 1) tNil))))) (tRet (tC (.bl false))) tNext) (p1_law_same K E)
abbrev n_law_same : List Str := ["found", "due", "k"]

theorem len_law_same (h : sp_law_same K vs H Q E) : vs.length = (["found", "due"] : List Str).length := by
  obtain ⟨_, _, _, rfl, _⟩ := h
  rfl
theorem pure_law_same (K : PySem.W.Frag) (vs : List V) (H : Hp) (Q : VK) (E : XK) (h : sp_law_same K vs H Q E) : t_law_same K E { nx := fun _ H' => Q .non H', rt := Q } (start n_law_same vs) H := by
  obtain ⟨p, r, L, rfl, hp, hr, hl, q⟩ := h
  have hp' : SqL K H p (L.map V.int) := SqL.of hp
  unfold t_law_same
  walk_at "go"
  refine g_isi (b := true) (.base (.lst hp)) (show L2.kitB "list" "list" = some true by decide +kernel) ?_
  walk_at "go"
  refine g_lenL hp' ?_
  walk_at "go"
  refine g_lenL hr ?_
  walk_at "go"
  refine dec_NT rfl ?_
  walk_at "go"
  unfold p1_law_same
  walk_at "go"
  refine g_forR1 ?_
  walk_at "go"
  refine g_lenL hr ?_
  walk_at "go"
  rw [List.length_map]
  refine rng1_of (by omega) (by omega) ?_
  rw [Int.toNat_natCast]
  refine forR_run L.length (fun i σ H' => ∃ w, σ = [some (.ref p), some (.ref r), w] ∧ H' = H) ?_ ?_ ⟨_, rfl, rfl⟩
  · rintro i σ H2 N hi ⟨w, rfl, rfl⟩ hN
    have hi : atI (L.map V.int) (i : Int) = some (.int (cell L i)) := atI_map (by omega) (by omega)
    walk_at "go"
    unfold p0_law_same
    walk_at "go"
    refine g_ixL hp' hi ?_
    walk_at "go"
    refine .inl ⟨_, rfl, ?_⟩
    walk_at "go"
    refine g_ixL hp' hi ?_
    walk_at "go"
    refine g_ixL hr hi ?_
    walk_at "go"
    refine dec_NT rfl ?_
    walk_at "go"
    exact hN _ _ ⟨_, rfl, rfl⟩
  · rintro σ H2 ⟨w, rfl, rfl⟩
    walk_at "go"
    exact q
def sp_law_line (K : PySem.W.Frag) : Sp := fun vs H Q _ => ∃ d M o L, vs = [.ref d, oV o] ∧ MD H d M ∧ Line M o L ∧ M.length ≤ 900 ∧ ∀ p H', H p = none → Same H H' → H' p = some (.lst (L.map V.int)) → Q (.ref p) H'
/-- _law_line: slots rows, cord, found -/
def p0_law_line (K : PySem.W.Frag) (E : XK) : TS :=
  tSeq (tDrop (tBM K "list" rAppend (tVar 2) (tCons (tVar 1) tNil))) (tAsg (tOp (rIxT K) (tDGet (tVar 0) (tVar 1)) (tC (.int 0))) (gName 1))
def t_law_line (K : PySem.W.Frag) (E : XK) : TS :=
  tSeq (tAsg (tLst tNil) (gName 2)) (tSeq (tWhile (tTest (tOp rNotN (tVar 1) (tC .non))) (p0_law_line K E)) (tRet (tVar 2)))
abbrev n_law_line : List Str := ["rows", "cord", "found"]

theorem len_law_line (h : sp_law_line K vs H Q E) : vs.length = (["rows", "cord"] : List Str).length := by
  obtain ⟨_, _, _, _, rfl, _⟩ := h
  rfl
theorem pure_law_line (K : PySem.W.Frag) (vs : List V) (H : Hp) (Q : VK) (E : XK) (h : sp_law_line K vs H Q E) : t_law_line K E { nx := fun _ H' => Q .non H', rt := Q } (start n_law_line vs) H := by
  obtain ⟨d, M, o, L, rfl, B, hL, hlen, q⟩ := h
  unfold t_law_line
  walk_at "go"
  intro p hp
  walk_at "go"
  refine wh_go (L.length + 1) (fun k h => mono_test (mono_op mono_notN (mono_var _) (mono_c _)) k h) ?_
  have run : ∀ {o : Option Int} {L : List Int}, Line M o L → ∀ (acc : List Int) (H1 : Hp), acc.length + L.length ≤ 1000 → Same H H1 → H1 p = some (.lst (acc.map V.int)) →
      (∀ H2, Same H H2 → H2 p = some (.lst ((acc ++ L).map V.int)) → Q (.ref p) H2) →
      whRun (tTest (tOp rNotN (tVar 1) (tC .non))) (p0_law_line K E)
        { nx := tRet (tVar 2) { nx := fun _ H' => Q .non H', rt := Q }, rt := Q } (L.length + 1) [some (.ref d), some (oV o), some (.ref p)] H1 := by
    intro o L hL
    induction hL with
    | nil =>
      intro acc H1 hn s1 h1 hq
      show tTest _ _ _ _
      walk_at "go"
      refine hq H1 s1 ?_
      rw [List.append_nil]
      exact h1
    | @cons x w L ew hl ih =>
      intro acc H1 hn s1 h1 hq
      show tTest _ _ _ _
      walk_at "go"
      unfold p0_law_line
      walk_at "go"
      refine ⟨ty_list (SqL.of h1), ?_⟩
      walk_at "go"
      rw [List.length_cons] at hn
      refine g_append h1 (sz_lt (by rw [List.length_map]; omega)) ?_
      walk_at "go"
      have s2 : Same H (upd H1 p (.lst (acc.map V.int ++ [V.int x]))) := same_mut s1 hp
      refine (B.same s2).row ew (show atI (rowV w) 0 = some (oV w.1) from rfl) ?_
      walk_at "go"
      refine ih (acc ++ [x]) _ (by rw [List.length_append, List.length_singleton]; omega) s2 (by rw [upd_same, List.map_append] <;> rfl) fun H3 s3 h3 => hq H3 s3 ?_
      rw [h3, List.append_assoc] <;> rfl
  exact run hL [] _ (by have := hL.len; simp; omega) (same_new hp) upd_same fun H2 s2 h2 => q p H2 hp s2 h2
def sp_law_beneath (K : PySem.W.Frag) : Sp := fun vs H Q _ => ∃ d M k, vs = [.ref d, .int k] ∧ MD H d M ∧ Wf M ∧ M.length ≤ 900 ∧ ∀ p H', H p = none → Same H H' → H' p = some (.lst ((underL M k).map V.int)) → Q (.ref p) H'
/-- _law_beneath: slots rows, cord, name -/
def t_law_beneath (K : PySem.W.Frag) (E : XK) : TS :=
  tRet (tLc (iList K (tCB (rSortedI K) (tCons (tCB rListR (tCons (tVar 0) tNil)) tNil))) (gName 2) (tTest (tOp (rIn K false) (tVar 1) (tCall (sp_law_line K) [] E0 (tCons (tVar 0) (tCons (tVar 2) tNil))))) (tVar 2) [2])
abbrev n_law_beneath : List Str := ["rows", "cord", "name"]

theorem len_law_beneath (h : sp_law_beneath K vs H Q E) : vs.length = (["rows", "cord"] : List Str).length := by
  obtain ⟨_, _, _, rfl, _⟩ := h
  rfl
theorem keys_len9 {M : Rows} (h : M.length ≤ 900) : (keysR M).length ≤ 900 := by unfold keysR; rw [List.length_map]; exact h
theorem pure_law_beneath (K : PySem.W.Frag) (vs : List V) (H : Hp) (Q : VK) (E : XK) (h : sp_law_beneath K vs H Q E) : t_law_beneath K E { nx := fun _ H' => Q .non H', rt := Q } (start n_law_beneath vs) H := by
  obtain ⟨d, M, k, rfl, B, wf, hlen, q⟩ := h
  have hkl := keys_len9 hlen
  unfold t_law_beneath
  walk_at "go"
  refine g_lcL ?_
  walk_at "go"
  refine B.lst fun p1 hp1 => ?_
  walk_at "go"
  have s1 : Same H (upd H p1 (.lst ((keysR M).map V.int))) := same_new hp1
  refine ⟨p1, keysR M, rfl, SqL.of upd_same, fun ns' p2 pm rising hp2 => ?_⟩
  have e := asc_perm wf.asc pm rising
  subst e
  have s2 := s1.trans (same_new (o := .lst ((keysR M).map V.int)) hp2)
  obtain ⟨H2, e2⟩ : ∃ H2, H2 = upd (upd H p1 (.lst ((keysR M).map V.int))) p2 (.lst ((keysR M).map V.int)) := ⟨_, rfl⟩
  have h2 : H2 p2 = some (.lst ((keysR M).map V.int)) := by rw [e2]; exact upd_same
  rw [← e2] at s2 ⊢
  clear e2
  refine lc_go (SqL.of h2) fun L hL => ?_
  refine lcK_map V.int (fun y => if k ∈ lineR M (some y) then some (V.int y) else none) hL (SqL.of h2) (fun y hy H3 R3 s3 r3 => ?_) (by omega) (same_new hL) upd_same fun H3 s3 h3 => ?_
  · obtain ⟨w, ew⟩ := key_rget hy
    walk_at "go"
    refine ⟨d, M, some y, _, rfl, B.same (s2.trans s3), wf.of ew, hlen, fun p4 H4 hp4 s4 h4 => ?_⟩
    have r3 := r3 H4 s4
    refine g_in (SqL.of h4) rfl (flat_int _) ?_
    walk_at "go"
    rw [in_int]
    refine g_iteD (fun z => ?_) (fun z => ?_)
    · rw [if_pos z] at r3
      walk_at "go"
      exact r3
    · rw [if_neg z] at r3
      exact r3
  have e3 : (keysR M).filterMap (fun y => if k ∈ lineR M (some y) then some (V.int y) else none) = (underL M k).map V.int := by
    unfold underL
    generalize keysR M = l
    induction l with
    | nil => rfl
    | cons x r ih =>
      rw [List.filterMap_cons, List.filter_cons]
      by_cases z : k ∈ lineR M (some x)
      · rw [if_pos z, if_pos (decide_eq_true z), List.map_cons, ih]
      · rw [if_neg z, if_neg (by rw [decide_eq_false z]; exact Bool.false_ne_true), ih]
  rw [e3] at h3
  exact q L H3 (s2.free hL) (s2.trans s3) h3
def sp_law_number (K : PySem.W.Frag) : Sp := fun vs H Q _ => ∃ d M k, vs = [.ref d, .int k] ∧ MD H d M ∧ Wf M ∧ M.length ≤ 900 ∧ ∀ H', Same H H' → Q (.int (modN M k)) H'
/-- _law_number: slots rows, cord, name -/
def t_law_number (K : PySem.W.Frag) (E : XK) : TS :=
  tRet (tCB (rSum K) (tCons (tLc (iList K (tCall (sp_law_beneath K) [] E0 (tCons (tVar 0) (tCons (tVar 1) tNil)))) (gName 2) tYes (tOp (rIxT K) (tDGet (tVar 0) (tVar 2)) (tC (.int 2))) [2]) tNil))
abbrev n_law_number : List Str := ["rows", "cord", "name"]

theorem len_law_number (h : sp_law_number K vs H Q E) : vs.length = (["rows", "cord"] : List Str).length := by
  obtain ⟨_, _, _, rfl, _⟩ := h
  rfl
theorem pure_law_number (K : PySem.W.Frag) (vs : List V) (H : Hp) (Q : VK) (E : XK) (h : sp_law_number K vs H Q E) : t_law_number K E { nx := fun _ H' => Q .non H', rt := Q } (start n_law_number vs) H := by
  obtain ⟨d, M, k, rfl, B, wf, hlen, q⟩ := h
  have hul : (underL M k).length ≤ 900 := Nat.le_trans (List.length_filter_le _ _) (keys_len9 hlen)
  unfold t_law_number
  walk_at "go"
  refine g_lcL ?_
  walk_at "go"
  refine ⟨d, M, k, rfl, B, wf, hlen, fun p1 H1 hp1 s1 h1 => ?_⟩
  refine lc_go (SqL.of h1) fun L hL => ?_
  refine lcK_map V.int (fun y => some (V.int (numR M y))) hL (SqL.of h1) (fun y hy H3 R3 s3 r3 => ?_) (by omega) (same_new hL) upd_same fun H3 s3 h3 => ?_
  · obtain ⟨w, ew⟩ := key_rget (List.mem_filter.mp hy).1
    have r3 := r3 H3 (Same.refl _)
    rw [numR_some ew] at r3
    walk_at "go"
    exact (B.same (s1.trans s3)).row ew (show atI (rowV w) 2 = some (.int w.2.2) from rfl) r3
  have e3 : (underL M k).filterMap (fun y => some (V.int (numR M y))) = ((underL M k).map (numR M)).map V.int := by
    rw [List.map_map]
    generalize underL M k = l
    induction l with
    | nil => rfl
    | cons x r ih => rw [List.filterMap_cons_some (f := fun y => some (V.int (numR M y))) rfl, ih] <;> rfl
  rw [e3] at h3
  walk_at "go"
  refine ⟨L, _, rfl, SqL.of h3, ?_⟩
  exact q H3 (s1.trans s3)
end
end K12

/-! ## PuDn -/
namespace K12
open PySem PySem.Spec PyProof.Rows L2 Cor
theorem range_fm {α β : Type} (g : α → β) (M : List α) : (List.range M.length).filterMap (fun j => (M[j]?).map g) = M.map g := by
  have key : ∀ n, n ≤ M.length → (List.range n).filterMap (fun j => (M[j]?).map g) = (M.take n).map g := by
    intro n
    induction n with
    | zero => intro _; rfl
    | succ n ih =>
      intro hn
      obtain ⟨x, ex⟩ : ∃ x, M[n]? = some x := ⟨_, List.getElem?_eq_getElem (by omega)⟩
      rw [List.range_succ, List.filterMap_append, ih (by omega), List.take_add_one, ex, List.map_append]
      congr 1
      rw [List.filterMap_cons_some (b := g x) (by rw [ex] <;> rfl)] <;> rfl
  have := key M.length (Nat.le_refl _)
  rw [List.take_length] at this
  exact this
theorem rows_at {H : Hp} : ∀ {kvs : List (Key × V)} {M : Rows}, RowsAt H kvs M → ∀ {j : Nat} {k : Key} {v : V}, kvs[j]? = some (k, v) → ∃ p, M[j]? = some p ∧ k = Sum.inl p.1 ∧ ∃ t, v = .ref t ∧ H t = some (.tup (rowV p.2)) := by
  intro kvs M h
  unfold RowsAt at h
  induction h with
  | nil => intro j k v e; cases e
  | @cons a b as bs h _ ih =>
    intro j k v e
    cases j with
    | zero =>
      cases e
      obtain ⟨h1, t, h2, h3⟩ := h
      exact ⟨b, rfl, h1, t, h2, h3⟩
    | succ j => exact ih (by rw [List.getElem?_cons_succ] at e; exact e)
theorem in_overs {M : Rows} (c : Int) : decide (some c ∈ M.map fun p => p.2.1) = !decide (hangR M (some c) = []) := by
  unfold hangR
  induction M with
  | nil => rfl
  | cons p r ih =>
    rw [List.map_cons, List.filter_cons]
    by_cases q : p.2.1 = some c
    · rw [if_pos (decide_eq_true q), decide_eq_true (by rw [q]; exact List.mem_cons_self), decide_eq_false (by rw [List.map_cons]; intro z; cases z)] <;> rfl
    · rw [if_neg (by rw [decide_eq_false q]; exact Bool.false_ne_true), ← ih]
      have : (some c ∈ p.2.1 :: r.map fun p => p.2.1) ↔ some c ∈ r.map fun p => p.2.1 := by
        rw [List.mem_cons]
        exact ⟨fun z => z.elim (fun z => absurd z.symm q) id, .inr⟩
      exact decide_eq_decide.mpr this
section
variable {K : PySem.W.Frag} {vs : List V} {H : Hp} {Q : VK} {E : XK}
def sp_law_is_end (K : PySem.W.Frag) : Sp := fun vs H Q _ => ∃ d M k, vs = [.ref d, .int k] ∧ UD H d M ∧ Wf M ∧ M.length ≤ 900 ∧ ∀ H', Same H H' → Q (.bl (decide (hangR M (some k) = []))) H'
/-- _law_is_end: slots rows, cord, name -/
def t_law_is_end (K : PySem.W.Frag) (E : XK) : TS :=
  tRet (tOp (rIn K true) (tVar 1) (tLockE (tLc (iKeys (tVar 0)) (gName 2) tYes (tOp (rIxT K) (tDGet (tVar 0) (tVar 2)) (tC (.int 0))) [2])))
abbrev n_law_is_end : List Str := ["rows", "cord", "name"]

theorem len_law_is_end (h : sp_law_is_end K vs H Q E) : vs.length = (["rows", "cord"] : List Str).length := by
  obtain ⟨_, _, _, rfl, _⟩ := h
  rfl
theorem pure_law_is_end (K : PySem.W.Frag) (vs : List V) (H : Hp) (Q : VK) (E : XK) (h : sp_law_is_end K vs H Q E) : t_law_is_end K E { nx := fun _ H' => Q .non H', rt := Q } (start n_law_is_end vs) H := by
  obtain ⟨d, M, k, rfl, ⟨kvs, hd, hr⟩, wf, hlen, q⟩ := h
  have hkl := hr.len
  unfold t_law_is_end
  walk_at "go"
  refine g_lcK rfl hd (fun j => (M[j]?).map fun p => oV p.2.1) (by omega) (fun od j k v ek H2 R s2 r2 => ?_) fun L H2 s2 hL h2 => ?_
  · obtain ⟨p, ep, rfl, t, rfl, ht⟩ := rows_at hr ek
    have r2 := r2 H2 (Same.refl _)
    rw [ep] at r2
    have eg : rget M p.1 = some p.2 := mem_rget wf.nd (List.mem_of_getElem? ep)
    show gName 2 (.int p.1) _ _ _
    walk_at "go"
    exact ((MD.locked hd hr).same s2).row eg (show atI (rowV p.2) 0 = some (oV p.2.1) from rfl) r2
  rw [hkl, range_fm] at h2
  have e2 : (M.map fun p => oV p.2.1) = (M.map fun p => p.2.1).map oV := by rw [List.map_map] <;> rfl
  rw [e2] at h2
  refine g_notin (SqL.of h2) rfl (flat_oV _) ?_
  rw [in_oV, in_overs, Bool.not_not]
  exact q _ s2
/-- an answer of the law's own book -/
def AnsV (H H' : Hp) (v : V) : MA → Prop
  | .non => v = .non
  | .num n => v = .int n
  | .nms l => ∃ p, v = .ref p ∧ H p = none ∧ H' p = some (.lst (l.map V.int))
def DueV (H H' : Hp) (P : Addr → Prop) (t : Addr) (u : Due Str) : Prop := ∃ d v, H' t = some (.tup [.str (Str.ofString u.1), v, .ref d]) ∧ H t = none ∧ AnsV H H' v u.2.1 ∧ UD H' d u.2.2 ∧ (P d ∨ H d = none)
theorem DueV.later {H0 H H' : Hp} {P P' : Addr → Prop} {t : Addr} {u : Due Str} (h : DueV H H' P t u) (s : Same H0 H) (hp : ∀ a, P a → P' a ∨ H0 a = none) : DueV H0 H' P' t u := by
  obtain ⟨d, v, h1, h2, h3, h4, h5⟩ := h
  refine ⟨d, v, h1, s.free h2, ?_, h4, h5.elim (hp d) fun z => .inr (s.free z)⟩
  cases hu : u.2.1 with
  | non => rw [hu] at h3; exact h3
  | num n => rw [hu] at h3; exact h3
  | nms l =>
    rw [hu] at h3
    obtain ⟨p, e1, e2, e3⟩ := h3
    exact ⟨p, e1, s.free e2, e3⟩
/-- a refusal -/
theorem due_no {H H1 : Hp} {d t : Addr} {M : Rows} {x : String} (s : Same H H1) (h : UD H d M) (ht : H1 t = none) : DueV H (upd H1 t (.tup [.str (Str.ofString x), .non, .ref d])) (· = d) t (x, .non, M) :=
  ⟨d, .non, upd_same, s.free ht, rfl, h.same (s.trans (same_new ht)), .inl rfl⟩
theorem hangM_some (M : Rows) (f c : Int) (dye : Str) : hangM M f (some c) dye = (match rget M c with
    | none => ("no cord", .non, M)
    | some w => if hangR M (some c) = [] ∧ w.2.2 ≠ 0 then ("knotted", .non, M) else ("done", .num f, rput M f (some c, dye, 0))) := by
  unfold hangM
  dsimp only
  cases rget M c <;> rfl
def sp_law_hung (K : PySem.W.Frag) : Sp := fun vs H Q _ => ∃ d M f o dye, vs = [.ref d, .int f, oV o, .str dye] ∧ UD H d M ∧ Wf M ∧ M.length ≤ 900 ∧ ∀ t H', Same H H' → DueV H H' (· = d) t (hangM M f o dye) → Q (.ref t) H'
/-- _law_hung: slots rows, following, place, dye, made -/
def p0_law_hung (K : PySem.W.Frag) (E : XK) : TS :=
  tSeq (tAsg (tCB rDictD (tCons (tVar 0) tNil)) (gName 4)) (tSeq (sDPut (tVar 4) (tVar 1) (tTup (tCons (tVar 2) (tCons (tVar 3) (tCons (tC (.int 0)) tNil))))) (tRet (tTup (tCons (tC (.str "done")) (tCons (tVar 1) (tCons (tVar 4) tNil))))))
def p1_law_hung (K : PySem.W.Frag) (E : XK) : TS :=
  tSeq (tIfS (tAnd (tTest (tOp rNotN (tVar 2) (tC .non))) (tAnd (tB (tCall (sp_law_is_end K) [] E0 (tCons (tVar 0) (tCons (tVar 2) tNil)))) (tTest (tOp rNe (tOp (rIxT K) (tDGet (tVar 0) (tVar 2)) (tC (.int 2))) (tC (.int 0)))))) (tRet (tTup (tCons (tC (.str "knotted")) (tCons (tC .non) (tCons (tVar 0) tNil))))) tNext) (p0_law_hung K E)
def t_law_hung (K : PySem.W.Frag) (E : XK) : TS :=
  tSeq (tIfS (tAnd (tTest (tOp rNotN (tVar 2) (tC .non))) (tB (tDNotIn (tVar 2) (tVar 0)))) (tRet (tTup (tCons (tC (.str "no cord")) (tCons (tC .non) (tCons (tVar 0) tNil))))) tNext) (p1_law_hung K E)
abbrev n_law_hung : List Str := ["rows", "following", "place", "dye", "made"]

theorem len_law_hung (h : sp_law_hung K vs H Q E) : vs.length = (["rows", "following", "place", "dye"] : List Str).length := by
  obtain ⟨_, _, _, _, _, rfl, _⟩ := h
  rfl
theorem pure_law_hung (K : PySem.W.Frag) (vs : List V) (H : Hp) (Q : VK) (E : XK) (h : sp_law_hung K vs H Q E) : t_law_hung K E { nx := fun _ H' => Q .non H', rt := Q } (start n_law_hung vs) H := by
  obtain ⟨d, M, f, o, dye, rfl, B, wf, hlen, q⟩ := h
  have fin : ∀ H1, Same H H1 → hangM M f o dye = ("done", .num f, rput M f (o, dye, 0)) → p0_law_hung K E { nx := fun _ H' => Q .non H', rt := Q } [some (.ref d), some (.int f), some (oV o), some (.str dye), none] H1 := fun H1 s1 e => by
    obtain ⟨kvs, hd, hr⟩ := B.same s1
    unfold p0_law_hung
    walk_at "go"
    refine ⟨d, kvs, rfl, .inl hd, fun m hm => ?_⟩
    walk_at "go"
    intro t ht
    have s2 : Same H1 (upd H1 m (.dK kvs)) := same_new hm
    have s3 : Same (upd H1 m (.dK kvs)) (upd (upd H1 m (.dK kvs)) t (.tup (rowV (o, dye, 0)))) := same_new ht
    have hr3 : RowsAt (upd (upd H1 m (.dK kvs)) t (.tup (rowV (o, dye, 0)))) kvs M := hr.mono fun a xs z => s3 _ _ (s2 _ _ z)
    have hm3 : (upd (upd H1 m (.dK kvs)) t (.tup (rowV (o, dye, 0)))) m = some (.dK kvs) := s3 _ _ upd_same
    walk_at "go"
    refine ⟨m, _, rfl, DPut.k (k := Sum.inl f) hm3 (sz_lt (by rw [hr.len]; omega)), ?_⟩
    walk_at "go"
    intro t2 ht2
    have hr4 := hr3.put f (w := (o, dye, 0)) (t := t) upd_same
    have s4 : Same H1 (upd (upd (upd H1 m (.dK kvs)) t (.tup (rowV (o, dye, 0)))) m (.dK (putK kvs (Sum.inl f) (.ref t)))) := same_mut (s2.trans s3) hm
    have s5 := s1.trans s4
    refine q t2 _ (s5.trans (same_new ht2)) ?_
    rw [e]
    refine ⟨m, .int f, upd_same, s5.free ht2, rfl, ⟨_, same_new ht2 _ _ upd_same, hr4.mono fun a xs z => same_new ht2 _ _ ?_⟩, .inr (s1.free hm)⟩
    rw [upd_ne (ne_of z hm3 (by intro y; cases y))]
    exact z
  unfold t_law_hung
  cases o with
  | none =>
    walk_at "go"
    unfold p1_law_hung
    walk_at "go"
    exact fin H (Same.refl _) rfl
  | some c =>
    walk_at "go"
    refine MD.notin (k := c) B.md ?_
    cases e : rget M c with
    | none =>
      refine iteT ?_
      walk_at "go"
      intro t ht
      refine q t _ (same_new ht) ?_
      rw [hangM_some, e]
      exact due_no (Same.refl _) B ht
    | some w =>
      refine iteF ?_
      walk_at "go"
      unfold p1_law_hung
      walk_at "go"
      refine ⟨d, M, c, rfl, B, wf, hlen, fun H1 s1 => ?_⟩
      walk_at "go"
      refine g_iteD (fun he => ?_) (fun he => ?_)
      · walk_at "go"
        refine MD.rowC (B.same s1).md e rfl (show atI (rowV w) 2 = some (.int w.2.2) from rfl) ?_
        walk_at "go"
        refine g_iteN (fun hn => ?_) (fun hn => ?_)
        · walk_at "go"
          intro t ht
          refine q t _ (s1.trans (same_new ht)) ?_
          rw [hangM_some, e]
          dsimp only
          rw [if_pos ⟨he, hn⟩]
          exact due_no s1 B ht
        · walk_at "go"
          refine fin H1 s1 ?_
          rw [hangM_some, e]
          dsimp only
          rw [if_neg (fun z => z.2 hn)]
      · walk_at "go"
        refine fin H1 s1 ?_
        rw [hangM_some, e]
        dsimp only
        rw [if_neg (fun z => he z.1)]
end
end K12

/-! ## PuDo -/
namespace K12
open PySem PySem.Spec PyProof.Rows L2 Cor
theorem layM_some {M : Rows} {c a : Int} {w : RwD Str} (e : rget M c = some w) : layM M c a = if hangR M (some c) ≠ [] then ("no end", .non, M) else
    if ∃ x ∈ lineR M (some c), ¬ (0 ≤ modN (rput M c (w.1, w.2.1, w.2.2 + a)) x ∧ modN (rput M c (w.1, w.2.1, w.2.2 + a)) x ≤ 999) then ("too much", .non, M) else ("done", .num (w.2.2 + a), rput M c (w.1, w.2.1, w.2.2 + a)) := by
  unfold layM
  rw [e]
theorem layM_none {M : Rows} {c a : Int} (e : rget M c = none) : layM M c a = ("no cord", .non, M) := by
  unfold layM
  rw [e]
theorem over_off {M : Rows} (wf : Wf M) {c : Int} {w : RwD Str} (e : rget M c = some w) : c ∉ lineR M w.1 := (List.nodup_cons.mp (Line.cons e (wf.over e)).nodup).1
theorem rput_len {M : Rows} {c : Int} {w z : RwD Str} (e : rget M c = some z) : (rput M c w).length = M.length := by
  rw [rput_old e, List.length_map]
section
variable {K : PySem.W.Frag} {vs : List V} {H : Hp} {Q : VK} {E : XK}
/-- made = dict(rows); made[c] = w -/
theorem put_new {H : Hp} {d m t : Addr} {M : Rows} {kvs : List (Key × V)} {c : Int} {w : RwD Str} (hr : RowsAt H kvs M) (hm : H m = none) (ht : upd H m (.dK kvs) t = none) :
    upd (upd H m (.dK kvs)) t (.tup (rowV w)) m = some (.dK kvs) ∧ Same H (upd (upd (upd H m (.dK kvs)) t (.tup (rowV w))) m (.dK (putK kvs (Sum.inl c) (.ref t)))) ∧
    RowsAt (upd (upd (upd H m (.dK kvs)) t (.tup (rowV w))) m (.dK (putK kvs (Sum.inl c) (.ref t)))) (putK kvs (Sum.inl c) (.ref t)) (rput M c w) := by
  have s2 : Same H (upd H m (.dK kvs)) := same_new hm
  have s3 : Same (upd H m (.dK kvs)) (upd (upd H m (.dK kvs)) t (.tup (rowV w))) := same_new ht
  have hm3 : upd (upd H m (.dK kvs)) t (.tup (rowV w)) m = some (.dK kvs) := s3 _ _ upd_same
  have hr3 : RowsAt (upd (upd H m (.dK kvs)) t (.tup (rowV w))) kvs M := hr.mono fun a xs z => s3 _ _ (s2 _ _ z)
  refine ⟨hm3, same_mut (s2.trans s3) hm, (hr3.put c (w := w) (t := t) upd_same).mono fun a xs z => ?_⟩
  rw [upd_ne (ne_of z hm3 (by intro y; cases y))]
  exact z
def sp_law_laid (K : PySem.W.Frag) : Sp := fun vs H Q _ => ∃ d M c a, vs = [.ref d, .int c, .int a] ∧ UD H d M ∧ Wf M ∧ M.length ≤ 900 ∧ ∀ t H', Same H H' → DueV H H' (· = d) t (layM M c a) → Q (.ref t) H'
/-- _law_laid: slots rows, cord, amount, made, name -/
def p0_law_laid (K : PySem.W.Frag) (E : XK) : TS :=
  tIfS (tNot (tTest (tChain rLeI rLeI (tC (.int 0)) (tCall (sp_law_number K) [] E0 (tCons (tVar 3) (tCons (tVar 4) tNil))) (tC (.int 999))))) (tRet (tTup (tCons (tC (.str "too much")) (tCons (tC .non) (tCons (tVar 0) tNil))))) tNext
def p1_law_laid (K : PySem.W.Frag) (E : XK) : TS :=
  tRet (tTup (tCons (tC (.str "done")) (tCons (tOp (rIxT K) (tDGet (tVar 3) (tVar 1)) (tC (.int 2))) (tCons (tVar 3) tNil))))
def p2_law_laid (K : PySem.W.Frag) (E : XK) : TS :=
  tSeq (tAsg (tCB rDictD (tCons (tVar 0) tNil)) (gName 3)) (tSeq (sDPut (tVar 3) (tVar 1) (tTup (tCons (tOp (rIxT K) (tDGet (tVar 0) (tVar 1)) (tC (.int 0))) (tCons (tOp (rIxT K) (tDGet (tVar 0) (tVar 1)) (tC (.int 1))) (tCons (tOp rAddI (tOp (rIxT K) (tDGet (tVar 0) (tVar 1)) (tC (.int 2))) (tVar 2)) tNil))))) (tSeq (tFor (iList K (tCall (sp_law_line K) [] E0 (tCons (tVar 0) (tCons (tVar 1) tNil)))) (gName 4) (p0_law_laid K E)) (p1_law_laid K E)))
def p3_law_laid (K : PySem.W.Frag) (E : XK) : TS :=
  tSeq (tIfS (tNot (tB (tCall (sp_law_is_end K) [] E0 (tCons (tVar 0) (tCons (tVar 1) tNil))))) (tRet (tTup (tCons (tC (.str "no end")) (tCons (tC .non) (tCons (tVar 0) tNil))))) tNext) (p2_law_laid K E)
def t_law_laid (K : PySem.W.Frag) (E : XK) : TS :=
  tSeq (tIfS (tB (tDNotIn (tVar 1) (tVar 0))) (tRet (tTup (tCons (tC (.str "no cord")) (tCons (tC .non) (tCons (tVar 0) tNil))))) tNext) (p3_law_laid K E)
abbrev n_law_laid : List Str := ["rows", "cord", "amount", "made", "name"]

theorem len_law_laid (h : sp_law_laid K vs H Q E) : vs.length = (["rows", "cord", "amount"] : List Str).length := by
  obtain ⟨_, _, _, _, rfl, _⟩ := h
  rfl
theorem pure_law_laid (K : PySem.W.Frag) (vs : List V) (H : Hp) (Q : VK) (E : XK) (h : sp_law_laid K vs H Q E) : t_law_laid K E { nx := fun _ H' => Q .non H', rt := Q } (start n_law_laid vs) H := by
  obtain ⟨d, M, c, a, rfl, B, wf, hlen, q⟩ := h
  unfold t_law_laid
  walk_at "go"
  refine MD.notin (k := c) B.md ?_
  cases e : rget M c with
  | none =>
    refine iteT ?_
    walk_at "go"
    intro t ht
    refine q t _ (same_new ht) ?_
    rw [layM_none e]
    exact due_no (Same.refl _) B ht
  | some w =>
    refine iteF ?_
    walk_at "go"
    unfold p3_law_laid
    walk_at "go"
    refine ⟨d, M, c, rfl, B, wf, hlen, fun H1 s1 => ?_⟩
    rw [layM_some e] at q
    walk_at "go"
    refine g_iteN (fun he => ?_) (fun he => ?_)
    · walk_at "go"
      intro t ht
      refine q t _ (s1.trans (same_new ht)) ?_
      rw [if_pos he]
      exact due_no s1 B ht
    rw [if_neg (fun z => z he)] at q
    walk_at "go"
    unfold p2_law_laid
    walk_at "go"
    obtain ⟨kvs, hd, hr⟩ := B.same s1
    refine ⟨d, kvs, rfl, .inl hd, fun m hm => ?_⟩
    have s2 : Same H1 (upd H1 m (.dK kvs)) := same_new hm
    walk_at "go"
    refine MD.rowC (B.same (s1.trans s2)).md e rfl (show atI (rowV w) 0 = some (oV w.1) from rfl) ?_
    walk_at "go"
    refine MD.rowC (B.same (s1.trans s2)).md e rfl (show atI (rowV w) 1 = some (.str w.2.1) from rfl) ?_
    walk_at "go"
    refine MD.rowC (B.same (s1.trans s2)).md e rfl (show atI (rowV w) 2 = some (.int w.2.2) from rfl) ?_
    walk_at "go"
    intro t ht
    walk_at "go"
    obtain ⟨hm3, s4, hr4⟩ := put_new (d := d) (c := c) (w := (w.1, w.2.1, w.2.2 + a)) hr hm ht
    refine ⟨m, _, rfl, DPut.k (k := Sum.inl c) hm3 (sz_lt (by rw [hr.len]; omega)), ?_⟩
    obtain ⟨H4, e4⟩ : ∃ H4, H4 = upd (upd (upd H1 m (.dK kvs)) t (.tup (rowV (w.1, w.2.1, w.2.2 + a)))) m (.dK (putK kvs (Sum.inl c) (.ref t))) := ⟨_, rfl⟩
    have hm4 : H4 m = some (.dK (putK kvs (Sum.inl c) (.ref t))) := by rw [e4]; exact upd_same
    rw [← e4] at s4 hr4 ⊢
    clear e4
    have U4 : UD H4 m (rput M c (w.1, w.2.1, w.2.2 + a)) := ⟨_, hm4, hr4⟩
    have s14 := s1.trans s4
    have wf4 : Wf (rput M c (w.1, w.2.1, w.2.2 + a)) := wf.put (z := w) (L := lineR M w.1) e (show Line M w.1 (lineR M w.1) from wf.over e) (over_off wf e)
    have hl4 : (rput M c (w.1, w.2.1, w.2.2 + a)).length ≤ 900 := by rw [rput_len e]; exact hlen
    generalize hM4 : rput M c (w.1, w.2.1, w.2.2 + a) = M4 at *
    have g4 : rget M4 c = some (w.1, w.2.1, w.2.2 + a) := by rw [← hM4, rget_put, if_pos rfl]
    walk_at "go"
    refine g_forL ?_
    walk_at "go"
    refine ⟨d, M, some c, _, rfl, (B.same s14).md, wf.of e, hlen, fun p5 H5 hp5 s5 h5 => ?_⟩
    have s15 := s14.trans s5
    refine for_go (xs := (lineR M (some c)).map V.int) ?_
    refine forL_run (fun l r σ H' => ∃ L1 L2 w4, l = L1.map V.int ∧ r = L2.map V.int ∧ L1 ++ L2 = lineR M (some c) ∧ (∀ x ∈ L1, 0 ≤ modN M4 x ∧ modN M4 x ≤ 999) ∧ Same H5 H' ∧ σ = [some (.ref d), some (.int c), some (.int a), some (.ref m), w4]) ?_ ?_ ?_ ⟨[], _, _, rfl, rfl, rfl, fun x hx => (by cases hx), Same.refl _, rfl⟩
    · rintro l r σ H' ⟨_, _, _, _, _, _, _, s6, _⟩
      exact SqL.of (s6 _ _ h5)
    · rintro l x r σ H6 N ⟨L1, L2, w4, rfl, er, eL, ok, s6, rfl⟩ hN
      cases L2 with
      | nil => cases er
      | cons y L2 =>
        rw [List.map_cons] at er
        injection er with er1 er2
        subst er1 er2
        walk_at "go"
        unfold p0_law_laid
        walk_at "go"
        refine ⟨m, M4, y, rfl, (U4.same (s5.trans s6)).md, wf4, hl4, fun H7 s7 => ?_⟩
        have s17 := (s15.trans s6).trans s7
        have bad : ¬ (0 ≤ modN M4 y ∧ modN M4 y ≤ 999) → ∀ t2, H7 t2 = none → Q (.ref t2) (upd H7 t2 (.tup [.str "too much", .non, .ref d])) := fun hb t2 ht2 => by
          refine q t2 _ (s17.trans (same_new ht2)) ?_
          rw [if_pos ⟨y, by rw [← eL]; simp, hb⟩]
          exact due_no s17 B ht2
        walk_at "go"
        refine g_iteD (fun h0 => ?_) (fun h0 => ?_)
        · walk_at "go"
          refine g_iteN (fun h1 => ?_) (fun h1 => ?_)
          · walk_at "go"
            exact bad fun z => h1 z.2
          · walk_at "go"
            refine hN _ _ ⟨L1 ++ [y], L2, _, by rw [List.map_append] <;> rfl, rfl, by rw [← eL, List.append_assoc] <;> rfl, fun x hx => ?_, s6.trans s7, rfl⟩
            rcases List.mem_append.mp hx with hx | hx
            · exact ok x hx
            · rw [List.mem_singleton.mp hx]; exact ⟨h0, h1⟩
        · walk_at "go"
          exact bad fun z => h0 z.1
    · rintro σ H6 ⟨L1, L2, w4, el, er, eL, ok, s6, rfl⟩
      have e2 : L2 = [] := by
        cases L2 with
        | nil => rfl
        | cons y L2 => cases er
      subst e2
      rw [List.append_nil] at eL
      subst eL
      show p1_law_laid K E _ _ _
      unfold p1_law_laid
      walk_at "go"
      refine MD.rowC (U4.same (s5.trans s6)).md g4 rfl (show atI (rowV (w.1, w.2.1, w.2.2 + a)) 2 = some (.int (w.2.2 + a)) from rfl) ?_
      walk_at "go"
      intro t2 ht2
      have s16 := s15.trans s6
      refine q t2 _ (s16.trans (same_new ht2)) ?_
      rw [if_neg (fun ⟨x, hx, z⟩ => z (ok x hx))]
      exact ⟨m, .int (w.2.2 + a), upd_same, s16.free ht2, rfl, U4.same ((s5.trans s6).trans (same_new ht2)), .inr (s1.free hm)⟩
end
end K12

/-! ## PuDp -/
namespace K12
open PySem PySem.Spec PyProof.Rows L2 Cor
theorem moveM_none {M : Rows} {c : Int} {p : Option Int} (e : rget M c = none) : moveM M c p = ("no cord", .non, M) := by
  unfold moveM
  rw [e]
theorem moveM_some {M : Rows} {c : Int} {p : Option Int} {w : RwD Str} (e : rget M c = some w) : moveM M c p = (match placeM M c p with
    | some x => (x, .non, M)
    | none => if ∃ x ∈ keysR (rput M c (p, w.2.1, w.2.2)), 999 < modN (rput M c (p, w.2.1, w.2.2)) x then ("too much", .non, M) else ("done", .num (modN M c), rput M c (p, w.2.1, w.2.2))) := by
  unfold moveM
  first
    | (rw [e]; done)
    | (rw [e]; dsimp only; cases placeM M c p <;> rfl)
theorem placeM_some (M : Rows) (c q : Int) : placeM M c (some q) = (match rget M q with
    | none => some "no cord"
    | some z => if c ∈ lineR M (some q) then some "ring" else if hangR M (some q) = [] ∧ z.2.2 ≠ 0 then some "knotted" else none) := by
  unfold placeM
  dsimp only
  cases rget M q <;> rfl
section
variable {K : PySem.W.Frag} {vs : List V} {H : Hp} {Q : VK} {E : XK}
def sp_law_moved (K : PySem.W.Frag) : Sp := fun vs H Q _ => ∃ d M c p, vs = [.ref d, .int c, oV p] ∧ UD H d M ∧ Wf M ∧ M.length ≤ 900 ∧ ∀ t H', Same H H' → DueV H H' (· = d) t (moveM M c p) → Q (.ref t) H'
/-- _law_moved: slots rows, cord, place, made, name -/
def p0_law_moved (K : PySem.W.Frag) (E : XK) : TS :=
  tIfS (tTest (tOp rGtI (tCall (sp_law_number K) [] E0 (tCons (tVar 3) (tCons (tVar 4) tNil))) (tC (.int 999)))) (tRet (tTup (tCons (tC (.str "too much")) (tCons (tC .non) (tCons (tVar 0) tNil))))) tNext
def p1_law_moved (K : PySem.W.Frag) (E : XK) : TS :=
  tRet (tTup (tCons (tC (.str "done")) (tCons (tCall (sp_law_number K) [] E0 (tCons (tVar 0) (tCons (tVar 1) tNil))) (tCons (tVar 3) tNil))))
def p2_law_moved (K : PySem.W.Frag) (E : XK) : TS :=
  tSeq (tAsg (tCB rDictD (tCons (tVar 0) tNil)) (gName 3)) (tSeq (sDPut (tVar 3) (tVar 1) (tTup (tCons (tVar 2) (tCons (tOp (rIxT K) (tDGet (tVar 0) (tVar 1)) (tC (.int 1))) (tCons (tOp (rIxT K) (tDGet (tVar 0) (tVar 1)) (tC (.int 2))) tNil))))) (tSeq (tLock (tFor (iKeys (tVar 3)) (gName 4) (p0_law_moved K E))) (p1_law_moved K E)))
def p3_law_moved (K : PySem.W.Frag) (E : XK) : TS :=
  tSeq (tIfS (tAnd (tTest (tOp rNotN (tVar 2) (tC .non))) (tAnd (tB (tCall (sp_law_is_end K) [] E0 (tCons (tVar 0) (tCons (tVar 2) tNil)))) (tTest (tOp rNe (tOp (rIxT K) (tDGet (tVar 0) (tVar 2)) (tC (.int 2))) (tC (.int 0)))))) (tRet (tTup (tCons (tC (.str "knotted")) (tCons (tC .non) (tCons (tVar 0) tNil))))) tNext) (p2_law_moved K E)
def p4_law_moved (K : PySem.W.Frag) (E : XK) : TS :=
  tSeq (tIfS (tAnd (tTest (tOp rNotN (tVar 2) (tC .non))) (tTest (tOp (rIn K false) (tVar 1) (tCall (sp_law_line K) [] E0 (tCons (tVar 0) (tCons (tVar 2) tNil)))))) (tRet (tTup (tCons (tC (.str "ring")) (tCons (tC .non) (tCons (tVar 0) tNil))))) tNext) (p3_law_moved K E)
def t_law_moved (K : PySem.W.Frag) (E : XK) : TS :=
  tSeq (tIfS (tOr (tB (tDNotIn (tVar 1) (tVar 0))) (tAnd (tTest (tOp rNotN (tVar 2) (tC .non))) (tB (tDNotIn (tVar 2) (tVar 0))))) (tRet (tTup (tCons (tC (.str "no cord")) (tCons (tC .non) (tCons (tVar 0) tNil))))) tNext) (p4_law_moved K E)
abbrev n_law_moved : List Str := ["rows", "cord", "place", "made", "name"]

theorem len_law_moved (h : sp_law_moved K vs H Q E) : vs.length = (["rows", "cord", "place"] : List Str).length := by
  obtain ⟨_, _, _, _, rfl, _⟩ := h
  rfl
theorem pure_law_moved (K : PySem.W.Frag) (vs : List V) (H : Hp) (Q : VK) (E : XK) (h : sp_law_moved K vs H Q E) : t_law_moved K E { nx := fun _ H' => Q .non H', rt := Q } (start n_law_moved vs) H := by
  obtain ⟨d, M, c, p, rfl, B, wf, hlen, q⟩ := h
  have fin : ∀ (H1 : Hp) (w : RwD Str) (Lp : List Int), Same H H1 → rget M c = some w → placeM M c p = none → Line M p Lp → c ∉ Lp → p2_law_moved K E { nx := fun _ H' => Q .non H', rt := Q } [some (.ref d), some (.int c), some (oV p), none, none] H1 := fun H1 w Lp s1 e ep hLp hcp => by
    rw [moveM_some e, ep] at q
    dsimp only at q
    unfold p2_law_moved
    walk_at "go"
    obtain ⟨kvs, hd, hr⟩ := B.same s1
    refine ⟨d, kvs, rfl, .inl hd, fun m hm => ?_⟩
    have s2 : Same H1 (upd H1 m (.dK kvs)) := same_new hm
    walk_at "go"
    refine MD.rowC (B.same (s1.trans s2)).md e rfl (show atI (rowV w) 1 = some (.str w.2.1) from rfl) ?_
    walk_at "go"
    refine MD.rowC (B.same (s1.trans s2)).md e rfl (show atI (rowV w) 2 = some (.int w.2.2) from rfl) ?_
    walk_at "go"
    intro t ht
    walk_at "go"
    obtain ⟨hm3, s4, hr4⟩ := put_new (d := d) (c := c) (w := (p, w.2.1, w.2.2)) hr hm ht
    refine ⟨m, _, rfl, DPut.k (k := Sum.inl c) hm3 (sz_lt (by rw [hr.len]; omega)), ?_⟩
    obtain ⟨H4, e4⟩ : ∃ H4, H4 = upd (upd (upd H1 m (.dK kvs)) t (.tup (rowV (p, w.2.1, w.2.2)))) m (.dK (putK kvs (Sum.inl c) (.ref t))) := ⟨_, rfl⟩
    have hm4 : H4 m = some (.dK (putK kvs (Sum.inl c) (.ref t))) := by rw [e4]; exact upd_same
    show tLock _ _ _ (upd (upd (upd H1 m (.dK kvs)) t (.tup (rowV (p, w.2.1, w.2.2)))) m (.dK (putK kvs (Sum.inl c) (.ref t))))
    rw [← e4] at s4 hr4 ⊢
    clear e4
    generalize putK kvs (Sum.inl c) (.ref t) = kv4 at *
    have s14 := s1.trans s4
    have wf4 : Wf (rput M c (p, w.2.1, w.2.2)) := wf.put (z := w) (L := Lp) e (show Line M p Lp from hLp) hcp
    have hl4 : (rput M c (p, w.2.1, w.2.2)).length ≤ 900 := by rw [rput_len e]; exact hlen
    generalize hM4 : rput M c (p, w.2.1, w.2.2) = M4 at *
    have U4 : UD H4 m M4 := ⟨_, hm4, hr4⟩
    have hm0 : H m = none := s1.free hm
    refine g_forK rfl hm4 H4 (Same.refl _) hm4 (fun j σ H' => ∃ w4, σ = [some (.ref d), some (.int c), some (oV p), some (.ref m), w4] ∧ ∀ i x, i < j → (keysR M4)[i]? = some x → ¬ 999 < modN M4 x) (fun od => ⟨_, rfl, fun i x hi => by omega⟩) ?_ ?_
    · rintro od j k v σ1 H5 N ek s5 ⟨w4, rfl, ok⟩ hN
      obtain ⟨pr, epr, rfl, t5, rfl, ht5⟩ := rows_at hr4 ek
      have ekey : (keysR M4)[j]? = some pr.1 := by unfold keysR; rw [List.getElem?_map, epr] <;> rfl
      show gName 4 (.int pr.1) _ _ _
      walk_at "go"
      unfold p0_law_moved
      walk_at "go"
      refine ⟨m, M4, pr.1, rfl, (MD.locked hm4 hr4).same s5, wf4, hl4, fun H6 s6 => ?_⟩
      have s46 := s5.trans s6
      walk_at "go"
      refine g_iteD (fun hb => ?_) (fun hb => ?_)
      · walk_at "go"
        intro t2 ht2
        have s47 := s46.trans (same_new (o := .tup [.str "too much", .non, .ref d]) ht2)
        refine ⟨s47 _ _ upd_same, ?_⟩
        have st : Same H4 (upd (upd H6 t2 (.tup [.str "too much", .non, .ref d])) m (.dK kv4)) := lock_same hm4 s47
        have htm : t2 ≠ m := fun z => by (rw [z, s46 _ _ upd_same] at ht2; cases ht2)
        refine q t2 _ (s14.trans st) ?_
        rw [if_pos ⟨pr.1, List.mem_of_getElem? ekey, hb⟩]
        refine ⟨d, .non, by rw [upd_ne htm]; exact upd_same, s14.free ?_, rfl, B.same (s14.trans st), .inl rfl⟩
        have hx := s46.free ht2
        rw [upd_ne htm] at hx
        exact hx
      · walk_at "go"
        refine hN _ _ s46 ⟨_, rfl, fun i x hi ex => ?_⟩
        by_cases hij : i < j
        · exact ok i x hij ex
        · have : i = j := by omega
          subst this
          rw [ekey] at ex
          cases ex
          exact hb
    · rintro od σ1 H5 s5 ⟨w4, rfl, ok⟩
      show p1_law_moved K E _ _ _
      unfold p1_law_moved
      have st := lock_same hm4 s5
      have s15 := s14.trans st
      walk_at "go"
      refine ⟨d, M, c, rfl, (B.same s15).md, wf, hlen, fun H6 s6 => ?_⟩
      walk_at "go"
      intro t2 ht2
      have s16 := s15.trans s6
      refine q t2 _ (s16.trans (same_new ht2)) ?_
      rw [if_neg]
      · exact ⟨m, .int (modN M c), upd_same, s16.free ht2, rfl, U4.same ((st.trans s6).trans (same_new ht2)), .inr hm0⟩
      · rintro ⟨x, hx, hb⟩
        obtain ⟨i, hi, ex⟩ := List.mem_iff_getElem.mp hx
        have hkl : (keysR M4).length = kv4.length := by unfold keysR; rw [List.length_map, hr4.len]
        exact ok i x (by omega) (by rw [List.getElem?_eq_getElem hi, ex]) hb
  unfold t_law_moved
  walk_at "go"
  refine MD.notin (k := c) B.md ?_
  cases e : rget M c with
  | none =>
    refine iteT ?_
    walk_at "go"
    intro t ht
    refine q t _ (same_new ht) ?_
    rw [moveM_none e]
    exact due_no (Same.refl _) B ht
  | some w =>
    refine iteF ?_
    cases p with
    | none =>
      walk_at "go"
      unfold p4_law_moved
      walk_at "go"
      unfold p3_law_moved
      walk_at "go"
      exact fin H w [] (Same.refl _) e rfl .nil (by simp)
    | some y =>
      walk_at "go"
      refine MD.notin (k := y) B.md ?_
      rw [moveM_some e] at q
      cases ey : rget M y with
      | none =>
        refine iteT ?_
        walk_at "go"
        intro t ht
        refine q t _ (same_new ht) ?_
        rw [placeM_some, ey]
        exact due_no (Same.refl _) B ht
      | some z =>
        refine iteF ?_
        walk_at "go"
        unfold p4_law_moved
        walk_at "go"
        refine ⟨d, M, some y, _, rfl, B.md, wf.of ey, hlen, fun p1 H1 hp1 s1 h1 => ?_⟩
        refine g_in (SqL.of h1) rfl (flat_int _) ?_
        walk_at "go"
        rw [in_int]
        refine g_iteD (fun hc => ?_) (fun hc => ?_)
        · walk_at "go"
          intro t ht
          refine q t _ (s1.trans (same_new ht)) ?_
          rw [placeM_some, ey]
          dsimp only
          rw [if_pos hc]
          exact due_no s1 B ht
        walk_at "go"
        unfold p3_law_moved
        walk_at "go"
        refine ⟨d, M, y, rfl, B.same s1, wf, hlen, fun H2 s2 => ?_⟩
        have s12 := s1.trans s2
        walk_at "go"
        refine g_iteD (fun he => ?_) (fun he => ?_)
        · walk_at "go"
          refine MD.rowC (B.same s12).md ey rfl (show atI (rowV z) 2 = some (.int z.2.2) from rfl) ?_
          walk_at "go"
          refine g_iteN (fun hn => ?_) (fun hn => ?_)
          · walk_at "go"
            intro t ht
            refine q t _ (s12.trans (same_new ht)) ?_
            rw [placeM_some, ey]
            dsimp only
            rw [if_neg hc, if_pos ⟨he, hn⟩]
            exact due_no s12 B ht
          · walk_at "go"
            refine fin H2 w _ s12 e ?_ (wf.of ey) hc
            rw [placeM_some, ey]
            dsimp only
            rw [if_neg hc, if_neg (fun x => x.2 hn)]
        · walk_at "go"
          refine fin H2 w _ s12 e ?_ (wf.of ey) hc
          rw [placeM_some, ey]
          dsimp only
          rw [if_neg hc, if_neg (fun x => he x.1)]
end
end K12

/-! ## PuDq -/
namespace K12
open PySem PySem.Spec PyProof.Rows L2 Cor
theorem cutM_none {M : Rows} {c : Int} (e : rget M c = none) : cutM M c = ("no cord", .non, M) := by
  unfold cutM
  rw [e]
theorem cutM_some {M : Rows} {c : Int} {w : RwD Str} (e : rget M c = some w) : cutM M c = ("done", .nms (underL M c), M.filter fun p => decide (p.1 ∉ underL M c)) := by
  unfold cutM
  rw [e]
section
variable {K : PySem.W.Frag} {vs : List V} {H : Hp} {Q : VK} {E : XK}
def sp_law_cut (K : PySem.W.Frag) : Sp := fun vs H Q _ => ∃ d M c, vs = [.ref d, .int c] ∧ UD H d M ∧ Wf M ∧ M.length ≤ 900 ∧ ∀ t H', Same H H' → DueV H H' (· = d) t (cutM M c) → Q (.ref t) H'
/-- _law_cut: slots rows, cord, gone, made, name -/
def p0_law_cut (K : PySem.W.Frag) (E : XK) : TS :=
  tIfS (tTest (tOp (rIn K true) (tVar 4) (tVar 2))) (sDPut (tVar 3) (tVar 4) (tDGet (tVar 0) (tVar 4))) tNext
def p1_law_cut (K : PySem.W.Frag) (E : XK) : TS :=
  tRet (tTup (tCons (tC (.str "done")) (tCons (tVar 2) (tCons (tVar 3) tNil))))
def p2_law_cut (K : PySem.W.Frag) (E : XK) : TS :=
  tSeq (tAsg (tCall (sp_law_beneath K) [] E0 (tCons (tVar 0) (tCons (tVar 1) tNil))) (gName 2)) (tSeq (tAsg tDNewK (gName 3)) (tSeq (tLock (tFor (iKeys (tVar 0)) (gName 4) (p0_law_cut K E))) (p1_law_cut K E)))
def t_law_cut (K : PySem.W.Frag) (E : XK) : TS :=
  tSeq (tIfS (tB (tDNotIn (tVar 1) (tVar 0))) (tRet (tTup (tCons (tC (.str "no cord")) (tCons (tC .non) (tCons (tVar 0) tNil))))) tNext) (p2_law_cut K E)
abbrev n_law_cut : List Str := ["rows", "cord", "gone", "made", "name"]

theorem len_law_cut (h : sp_law_cut K vs H Q E) : vs.length = (["rows", "cord"] : List Str).length := by
  obtain ⟨_, _, _, rfl, _⟩ := h
  rfl
theorem pure_law_cut (K : PySem.W.Frag) (vs : List V) (H : Hp) (Q : VK) (E : XK) (h : sp_law_cut K vs H Q E) : t_law_cut K E { nx := fun _ H' => Q .non H', rt := Q } (start n_law_cut vs) H := by
  obtain ⟨d, M, c, rfl, B, wf, hlen, q⟩ := h
  unfold t_law_cut
  walk_at "go"
  refine MD.notin (k := c) B.md ?_
  cases e : rget M c with
  | none =>
    refine iteT ?_
    walk_at "go"
    intro t ht
    refine q t _ (same_new ht) ?_
    rw [cutM_none e]
    exact due_no (Same.refl _) B ht
  | some w =>
    refine iteF ?_
    rw [cutM_some e] at q
    walk_at "go"
    unfold p2_law_cut
    walk_at "go"
    refine ⟨d, M, c, rfl, B.md, wf, hlen, fun p1 H1 hp1 s1 h1 => ?_⟩
    walk_at "go"
    intro m hm
    walk_at "go"
    obtain ⟨kvs, hd, hr⟩ := B.same s1
    have s2 : Same H1 (upd H1 m (.dK [])) := same_new hm
    have hmd : m ≠ d := fun z => by rw [z, hd] at hm; cases hm
    refine g_forK rfl (s2 _ _ hd) H1 s2 hd (fun j σ H' => ∃ w4 kv2, σ = [some (.ref d), some (.int c), some (.ref p1), some (.ref m), w4] ∧ H' m = some (.dK kv2) ∧ RowsAt H' kv2 ((M.take j).filter fun p => decide (p.1 ∉ underL M c))) (fun od => ⟨_, [], rfl, by rw [upd_ne hmd]; exact upd_same, .nil⟩) ?_ ?_
    · rintro od j k v σ1 H5 N ek s5 ⟨w4, kv2, rfl, hm5, hr5⟩ hN
      obtain ⟨pr, epr, rfl, t5, rfl, ht5⟩ := rows_at hr ek
      have eg : rget M pr.1 = some pr.2 := mem_rget wf.nd (List.mem_of_getElem? epr)
      have hj : j < M.length := (List.getElem?_eq_some_iff.mp epr).1
      have et : M.take (j + 1) = M.take j ++ [pr] := by rw [List.take_add_one, epr] <;> rfl
      have htt : ∀ a xs, H1 a = some (.tup xs) → H5 a = some (.tup xs) := fun a xs z => s5 _ _ (by rw [upd_ne (ne_of z hd (by intro y; cases y))]; exact z)
      have h15 : H5 p1 = some (.lst ((underL M c).map V.int)) := s5 _ _ (by rw [upd_ne (ne_of h1 hd (by intro y; cases y))]; exact h1)
      show gName 4 (.int pr.1) _ _ _
      walk_at "go"
      unfold p0_law_cut
      walk_at "go"
      refine g_notin (SqL.of h15) rfl (flat_int _) ?_
      rw [in_int]
      walk_at "go"
      refine g_iteN (fun hu => ?_) (fun hu => ?_)
      · walk_at "go"
        obtain ⟨o, g1, _, g2⟩ := ((MD.locked hd hr).same s5).get pr.1
        obtain ⟨tt, rfl, htw⟩ := g2 _ eg
        refine ⟨d, _, rfl, g1, ?_⟩
        walk_at "go"
        have hl2 : kv2.length < sizeLine := sz_lt (by
          have := List.length_filter_le (fun p : Int × RwD Str => decide (p.1 ∉ underL M c)) (M.take j)
          rw [List.length_take] at this
          rw [hr5.len]
          omega)
        refine ⟨m, _, rfl, DPut.k (k := Sum.inl pr.1) hm5 hl2, ?_⟩
        have hmn : upd H1 d (.frz od (.dK kvs)) m = none := by rw [upd_ne hmd]; exact hm
        have hput := hr5.put pr.1 (w := pr.2) htw
        refine hN _ _ (same_mut s5 hmn) ⟨_, _, rfl, upd_same, ?_⟩
        rw [et, List.filter_append, List.filter_cons, if_pos (decide_eq_true hu), List.filter_nil]
        have er : rput ((M.take j).filter fun p => decide (p.1 ∉ underL M c)) pr.1 pr.2 = ((M.take j).filter fun p => decide (p.1 ∉ underL M c)) ++ [pr] := by
          refine rput_add (rget_none.mpr fun hk => ?_)
          unfold keysR at hk
          obtain ⟨p2, hp2, e2⟩ := List.mem_map.mp hk
          have hp3 := (List.mem_filter.mp hp2).1
          have nd := wf.nd
          unfold keysR at nd
          have nd2 : ((M.take (j + 1)).map (·.1)).Nodup := by
            rw [List.map_take]
            exact nd.sublist (List.take_sublist _ _)
          rw [et, List.map_append, List.nodup_append] at nd2
          exact nd2.2.2 p2.1 (List.mem_map.mpr ⟨p2, hp3, rfl⟩) pr.1 (by simp) e2
        rw [er] at hput
        exact hput.mono fun a xs z => by rw [upd_ne (ne_of z hm5 (by intro y; cases y))]; exact z
      · walk_at "go"
        refine hN _ _ s5 ⟨_, _, rfl, hm5, ?_⟩
        rw [et, List.filter_append, List.filter_cons, if_neg (by rw [decide_eq_false (fun z => z hu)]; exact Bool.false_ne_true), List.filter_nil, List.append_nil]
        exact hr5
    · rintro od σ1 H5 s5 ⟨w4, kv2, rfl, hm5, hr5⟩
      rw [hr.len, List.take_length] at hr5
      have st := lock_same hd s5
      have s15 := s1.trans st
      show p1_law_cut K E _ _ _
      unfold p1_law_cut
      walk_at "go"
      intro t2 ht2
      refine q t2 _ (s15.trans (same_new ht2)) ?_
      refine ⟨m, .ref p1, upd_same, s15.free ht2, ⟨p1, rfl, hp1, same_new ht2 _ _ (st _ _ h1)⟩, ⟨kv2, same_new ht2 _ _ (by rw [upd_ne hmd]; exact hm5), hr5.mono fun a xs z => same_new ht2 _ _ ?_⟩, .inr (s1.free hm)⟩
      by_cases had : a = d
      · subst had
        rw [s5 _ _ upd_same] at z
        cases z
      · rw [upd_ne had]
        exact z
end
end K12

/-! ## PuDr -/
namespace K12
open PySem PySem.Spec PyProof.Rows L2 Cor
def kindS : Deed Str → Str
  | .hang _ _ _ => "hang"
  | .lay _ _ _ => "lay"
  | .move _ _ _ => "move"
  | .cut _ _ _ => "cut"
  | .undo _ _ _ => "undo"
def deedV : Deed Str → List V
  | .hang c p d => [.str "hang", .int c, oV p, .str d]
  | .lay c p a => [.str "lay", .int c, oV p, .int a]
  | .move c p a => [.str "move", .int c, oV p, .int a]
  | .cut c p a => [.str "cut", .int c, oV p, .int a]
  | .undo c p a => [.str "undo", .int c, oV p, .int a]
theorem atI_end {α : Type} (xs : List α) (y : α) : atI (xs ++ [y]) (-1) = some y := by
  have e : ixN (xs ++ [y]).length (-1) = some xs.length := by
    unfold ixN
    rw [if_neg (by decide), if_pos (by rw [List.length_append, List.length_singleton]; omega)]
    congr 1
    rw [List.length_append, List.length_singleton]
    omega
  unfold atI
  rw [e, Option.bind_some, List.getElem?_append_right (Nat.le_refl _), Nat.sub_self] <;> rfl
section
variable {K : PySem.W.Frag} {vs : List V} {H : Hp} {Q : VK} {E : XK}
def sp_law_due (K : PySem.W.Frag) : Sp := fun vs H Q _ => ∃ (d l t : Addr) (m : Bk) (pvs : List V) (ds : List Addr) (dd : Deed Str), vs = [.ref d, .int m.fol, .ref l, .ref t] ∧ UD H d m.R ∧ H l = some (.lst pvs) ∧ PastAt H pvs ds m.past ∧ H t = some (.tup (deedV dd)) ∧
  Wf m.R ∧ m.R.length ≤ 900 ∧ ∀ q H', Same H H' → DueV H H' (fun a => a = d ∨ a ∈ ds) q (dueM m dd) → Q (.ref q) H'
/-- _law_due: slots rows, following, past, deed -/
def p0_law_due (K : PySem.W.Frag) (E : XK) : TS :=
  tRet (tTup (tCons (tC (.str "done")) (tCons (tOp rSubI (tCB (rLenL K) (tCons (tVar 2) tNil)) (tC (.int 1))) (tCons (tOp (rIxT K) (tOp (rIxL K) (tVar 2) (tUn rNegI (tC (.int 1)))) (tC (.int 1))) tNil))))
def p1_law_due (K : PySem.W.Frag) (E : XK) : TS :=
  tSeq (tIfS (tTest (tOp rEq (tCB (rLenL K) (tCons (tVar 2) tNil)) (tC (.int 0)))) (tRet (tTup (tCons (tC (.str "nothing")) (tCons (tC .non) (tCons (tVar 0) tNil))))) tNext) (p0_law_due K E)
def p2_law_due (K : PySem.W.Frag) (E : XK) : TS :=
  tSeq (tIfS (tTest (tOp rEq (tOp (rIxT K) (tVar 3) (tC (.int 0))) (tC (.str "cut")))) (tRet (tCall (sp_law_cut K) [] E0 (tCons (tVar 0) (tCons (tOp (rIxT K) (tVar 3) (tC (.int 1))) tNil)))) tNext) (p1_law_due K E)
def p3_law_due (K : PySem.W.Frag) (E : XK) : TS :=
  tSeq (tIfS (tTest (tOp rEq (tOp (rIxT K) (tVar 3) (tC (.int 0))) (tC (.str "move")))) (tRet (tCall (sp_law_moved K) [] E0 (tCons (tVar 0) (tCons (tOp (rIxT K) (tVar 3) (tC (.int 1))) (tCons (tOp (rIxT K) (tVar 3) (tC (.int 2))) tNil))))) tNext) (p2_law_due K E)
def p4_law_due (K : PySem.W.Frag) (E : XK) : TS :=
  tSeq (tIfS (tTest (tOp rEq (tOp (rIxT K) (tVar 3) (tC (.int 0))) (tC (.str "lay")))) (tRet (tCall (sp_law_laid K) [] E0 (tCons (tVar 0) (tCons (tOp (rIxT K) (tVar 3) (tC (.int 1))) (tCons (tOp (rIxT K) (tVar 3) (tC (.int 3))) tNil))))) tNext) (p3_law_due K E)
def t_law_due (K : PySem.W.Frag) (E : XK) : TS :=
  tSeq (tIfS (tTest (tOp rEq (tOp (rIxT K) (tVar 3) (tC (.int 0))) (tC (.str "hang")))) (tRet (tCall (sp_law_hung K) [] E0 (tCons (tVar 0) (tCons (tVar 1) (tCons (tOp (rIxT K) (tVar 3) (tC (.int 2))) (tCons (tOp (rIxT K) (tVar 3) (tC (.int 3))) tNil)))))) tNext) (p4_law_due K E)
abbrev n_law_due : List Str := ["rows", "following", "past", "deed"]

theorem len_law_due (h : sp_law_due K vs H Q E) : vs.length = (["rows", "following", "past", "deed"] : List Str).length := by
  obtain ⟨_, _, _, _, _, _, _, rfl, _⟩ := h
  rfl
theorem pure_law_due (K : PySem.W.Frag) (vs : List V) (H : Hp) (Q : VK) (E : XK) (h : sp_law_due K vs H Q E) : t_law_due K E { nx := fun _ H' => Q .non H', rt := Q } (start n_law_due vs) H := by
  obtain ⟨d, l, t, m, pvs, ds, dd, rfl, B, hl, hp, ht, wf, hlen, q⟩ := h
  unfold t_law_due
  cases dd with
  | hang c p dye =>
    walk_at "go"
    refine g_ixT (SqT.of ht) (show atI (deedV (.hang c p dye)) 0 = some (.str "hang") from rfl) ?_
    walk_at "go"
    refine dec_T rfl ?_
    walk_at "go"
    refine g_ixT (SqT.of ht) (show atI (deedV (.hang c p dye)) 2 = some (oV p) from rfl) ?_
    walk_at "go"
    refine g_ixT (SqT.of ht) (show atI (deedV (.hang c p dye)) 3 = some (.str dye) from rfl) ?_
    walk_at "go"
    exact ⟨d, m.R, m.fol, p, dye, rfl, B, wf, hlen, fun t2 H2 s2 h2 => q t2 H2 s2 (h2.later (Same.refl _) fun a ha => .inl (.inl ha))⟩
  | lay c p a =>
    walk_at "go"
    refine g_ixT (SqT.of ht) (show atI (deedV (.lay c p a)) 0 = some (.str "lay") from rfl) ?_
    walk_at "go"
    refine dec_F (by decide) ?_
    walk_at "go"
    unfold p4_law_due
    walk_at "go"
    refine g_ixT (SqT.of ht) (show atI (deedV (.lay c p a)) 0 = some (.str "lay") from rfl) ?_
    walk_at "go"
    refine dec_T rfl ?_
    walk_at "go"
    refine g_ixT (SqT.of ht) (show atI (deedV (.lay c p a)) 1 = some (.int c) from rfl) ?_
    walk_at "go"
    refine g_ixT (SqT.of ht) (show atI (deedV (.lay c p a)) 3 = some (.int a) from rfl) ?_
    walk_at "go"
    exact ⟨d, m.R, c, a, rfl, B, wf, hlen, fun t2 H2 s2 h2 => q t2 H2 s2 (h2.later (Same.refl _) fun a ha => .inl (.inl ha))⟩
  | move c p a =>
    walk_at "go"
    refine g_ixT (SqT.of ht) (show atI (deedV (.move c p a)) 0 = some (.str "move") from rfl) ?_
    walk_at "go"
    refine dec_F (by decide) ?_
    walk_at "go"
    unfold p4_law_due
    walk_at "go"
    refine g_ixT (SqT.of ht) (show atI (deedV (.move c p a)) 0 = some (.str "move") from rfl) ?_
    walk_at "go"
    refine dec_F (by decide) ?_
    walk_at "go"
    unfold p3_law_due
    walk_at "go"
    refine g_ixT (SqT.of ht) (show atI (deedV (.move c p a)) 0 = some (.str "move") from rfl) ?_
    walk_at "go"
    refine dec_T rfl ?_
    walk_at "go"
    refine g_ixT (SqT.of ht) (show atI (deedV (.move c p a)) 1 = some (.int c) from rfl) ?_
    walk_at "go"
    refine g_ixT (SqT.of ht) (show atI (deedV (.move c p a)) 2 = some (oV p) from rfl) ?_
    walk_at "go"
    exact ⟨d, m.R, c, p, rfl, B, wf, hlen, fun t2 H2 s2 h2 => q t2 H2 s2 (h2.later (Same.refl _) fun a ha => .inl (.inl ha))⟩
  | cut c p a =>
    walk_at "go"
    refine g_ixT (SqT.of ht) (show atI (deedV (.cut c p a)) 0 = some (.str "cut") from rfl) ?_
    walk_at "go"
    refine dec_F (by decide) ?_
    walk_at "go"
    unfold p4_law_due
    walk_at "go"
    refine g_ixT (SqT.of ht) (show atI (deedV (.cut c p a)) 0 = some (.str "cut") from rfl) ?_
    walk_at "go"
    refine dec_F (by decide) ?_
    walk_at "go"
    unfold p3_law_due
    walk_at "go"
    refine g_ixT (SqT.of ht) (show atI (deedV (.cut c p a)) 0 = some (.str "cut") from rfl) ?_
    walk_at "go"
    refine dec_F (by decide) ?_
    walk_at "go"
    unfold p2_law_due
    walk_at "go"
    refine g_ixT (SqT.of ht) (show atI (deedV (.cut c p a)) 0 = some (.str "cut") from rfl) ?_
    walk_at "go"
    refine dec_T rfl ?_
    walk_at "go"
    refine g_ixT (SqT.of ht) (show atI (deedV (.cut c p a)) 1 = some (.int c) from rfl) ?_
    walk_at "go"
    exact ⟨d, m.R, c, rfl, B, wf, hlen, fun t2 H2 s2 h2 => q t2 H2 s2 (h2.later (Same.refl _) fun a ha => .inl (.inl ha))⟩
  | undo c p a =>
    walk_at "go"
    refine g_ixT (SqT.of ht) (show atI (deedV (.undo c p a)) 0 = some (.str "undo") from rfl) ?_
    walk_at "go"
    refine dec_F (by decide) ?_
    walk_at "go"
    unfold p4_law_due
    walk_at "go"
    refine g_ixT (SqT.of ht) (show atI (deedV (.undo c p a)) 0 = some (.str "undo") from rfl) ?_
    walk_at "go"
    refine dec_F (by decide) ?_
    walk_at "go"
    unfold p3_law_due
    walk_at "go"
    refine g_ixT (SqT.of ht) (show atI (deedV (.undo c p a)) 0 = some (.str "undo") from rfl) ?_
    walk_at "go"
    refine dec_F (by decide) ?_
    walk_at "go"
    unfold p2_law_due
    walk_at "go"
    refine g_ixT (SqT.of ht) (show atI (deedV (.undo c p a)) 0 = some (.str "undo") from rfl) ?_
    walk_at "go"
    refine dec_F (by decide) ?_
    walk_at "go"
    unfold p1_law_due
    walk_at "go"
    refine g_lenL (SqL.of hl) ?_
    walk_at "go"
    have hpl := hp.len
    rcases List.eq_nil_or_concat m.past with e0 | ⟨ps, p1, ep⟩
    · refine dec_T (by rw [hpl, e0] <;> rfl) ?_
      walk_at "go"
      intro t2 ht2
      refine q t2 _ (same_new ht2) ?_
      have e : dueM m (.undo c p a) = ("nothing", .non, m.R) := by
        unfold dueM
        rw [e0]
        rfl
      rw [e]
      exact (due_no (Same.refl _) B ht2).later (Same.refl _) fun a ha => .inl (.inl ha)
    · have ep : m.past = ps ++ [p1] := by rw [ep, List.concat_eq_append]
      have e : dueM m (.undo c p a) = ("done", .num ((m.past.length : Int) - 1), p1.2) := by
        unfold dueM
        dsimp only
        rw [ep, List.getLast?_concat]
      rw [ep] at hp
      obtain ⟨pvs0, ds0, t0, d2, kvs2, epv, eds, P0, ht0, hd2, hr2⟩ := hp.last
      refine dec_F (by rw [hpl, ep, List.length_append]; simp; omega) ?_
      walk_at "go"
      unfold p0_law_due
      walk_at "go"
      refine g_lenL (SqL.of hl) ?_
      walk_at "go"
      refine g_ixL (SqL.of hl) (v := .ref t0) (by rw [epv]; exact atI_end _ _) ?_
      walk_at "go"
      refine g_ixT (SqT.of ht0) (show atI [V.int p1.1, V.ref d2] 1 = some (.ref d2) from rfl) ?_
      walk_at "go"
      intro t2 ht2
      refine q t2 _ (same_new ht2) ?_
      rw [e, hpl]
      exact ⟨d2, _, upd_same, ht2, rfl, UD.same ⟨kvs2, hd2, hr2⟩ (same_new ht2), .inl (.inr (by rw [eds]; simp))⟩
def sp_law_answer (K : PySem.W.Frag) : Sp := fun vs H Q E => ∃ b fp s t, ∃ dd : Deed Str, vs = [.ref b, .ref t] ∧ Book K H b fp s ∧ OkB s ∧ Small s ∧ H t = some (.tup (deedV dd)) ∧
  (∀ a s', deedB s dd = .ok (a, s') → ∀ v H' fp', Book K H' b fp' s' → Keeps fp H H' → Grows fp fp' H → AnsV H H' v a → Q v H') ∧ ∀ x H', deedB s dd = .error x → Same H H' → E (.ref (He.ga K (Str.ofString x))) none H'
/-- _law_answer: slots book, deed -/
def p0_law_answer (K : PySem.W.Frag) (E : XK) : TS :=
  tRet (tMeth (He.ga K "Book") "undo" (sp_Book_undo K) [] E (tVar 0) tNil)
def p1_law_answer (K : PySem.W.Frag) (E : XK) : TS :=
  tSeq (tIfS (tTest (tOp rEq (tOp (rIxT K) (tVar 1) (tC (.int 0))) (tC (.str "cut")))) (tRet (tMeth (He.ga K "Book") "cut" (sp_Book_cut K) [] E (tVar 0) (tCons (tOp (rIxT K) (tVar 1) (tC (.int 1))) tNil))) tNext) (p0_law_answer K E)
def p2_law_answer (K : PySem.W.Frag) (E : XK) : TS :=
  tSeq (tIfS (tTest (tOp rEq (tOp (rIxT K) (tVar 1) (tC (.int 0))) (tC (.str "move")))) (tRet (tMeth (He.ga K "Book") "move" (sp_Book_move K) [] E (tVar 0) (tCons (tOp (rIxT K) (tVar 1) (tC (.int 1))) (tCons (tOp (rIxT K) (tVar 1) (tC (.int 2))) tNil)))) tNext) (p1_law_answer K E)
def p3_law_answer (K : PySem.W.Frag) (E : XK) : TS :=
  tSeq (tIfS (tTest (tOp rEq (tOp (rIxT K) (tVar 1) (tC (.int 0))) (tC (.str "lay")))) (tRet (tMeth (He.ga K "Book") "lay" (sp_Book_lay K) [] E (tVar 0) (tCons (tOp (rIxT K) (tVar 1) (tC (.int 1))) (tCons (tOp (rIxT K) (tVar 1) (tC (.int 3))) tNil)))) tNext) (p2_law_answer K E)
def t_law_answer (K : PySem.W.Frag) (E : XK) : TS :=
  tSeq (tIfS (tTest (tOp rEq (tOp (rIxT K) (tVar 1) (tC (.int 0))) (tC (.str "hang")))) (tRet (tMeth (He.ga K "Book") "hang" (sp_Book_hang K) [] E (tVar 0) (tCons (tOp (rIxT K) (tVar 1) (tC (.int 2))) (tCons (tOp (rIxT K) (tVar 1) (tC (.int 3))) tNil)))) tNext) (p3_law_answer K E)
abbrev n_law_answer : List Str := ["book", "deed"]

theorem len_law_answer (h : sp_law_answer K vs H Q E) : vs.length = (["book", "deed"] : List Str).length := by
  obtain ⟨_, _, _, _, _, rfl, _⟩ := h
  rfl
theorem pure_law_answer (K : PySem.W.Frag) (vs : List V) (H : Hp) (Q : VK) (E : XK) (h : sp_law_answer K vs H Q E) : t_law_answer K E { nx := fun _ H' => Q .non H', rt := Q } (start n_law_answer vs) H := by
  obtain ⟨b, fp, s, t, dd, rfl, B, ok, sm, ht, q, qe⟩ := h
  unfold t_law_answer
  cases dd with
  | hang c p dye =>
    walk_at "go"
    refine g_ixT (SqT.of ht) (show atI (deedV (.hang c p dye)) 0 = some (.str "hang") from rfl) ?_
    walk_at "go"
    refine dec_T rfl ?_
    walk_at "go"
    refine B.meth ?_
    walk_at "go"
    refine g_ixT (SqT.of ht) (show atI (deedV (.hang c p dye)) 2 = some (oV p) from rfl) ?_
    walk_at "go"
    refine g_ixT (SqT.of ht) (show atI (deedV (.hang c p dye)) 3 = some (.str dye) from rfl) ?_
    walk_at "go"
    exact ⟨b, fp, s, p, dye, rfl, B, ok, sm, fun n s' e H' fp' B' k g => q (.num n) s' (by show (hangB s p dye).map _ = _; rw [e] <;> rfl) _ H' fp' B' k g rfl, fun x e H' s' => qe x H' (by show (hangB s p dye).map _ = _; rw [e] <;> rfl) s'⟩
  | lay c p a =>
    walk_at "go"
    refine g_ixT (SqT.of ht) (show atI (deedV (.lay c p a)) 0 = some (.str "lay") from rfl) ?_
    walk_at "go"
    refine dec_F (by decide) ?_
    walk_at "go"
    unfold p3_law_answer
    walk_at "go"
    refine g_ixT (SqT.of ht) (show atI (deedV (.lay c p a)) 0 = some (.str "lay") from rfl) ?_
    walk_at "go"
    refine dec_T rfl ?_
    walk_at "go"
    refine B.meth ?_
    walk_at "go"
    refine g_ixT (SqT.of ht) (show atI (deedV (.lay c p a)) 1 = some (.int c) from rfl) ?_
    walk_at "go"
    refine g_ixT (SqT.of ht) (show atI (deedV (.lay c p a)) 3 = some (.int a) from rfl) ?_
    walk_at "go"
    exact ⟨b, fp, s, c, a, rfl, B, ok, sm, fun n s' e H' fp' B' k g => q (.num n) s' (by show (layB s c a).map _ = _; rw [e] <;> rfl) _ H' fp' B' k g rfl, fun x e H' s' => qe x H' (by show (layB s c a).map _ = _; rw [e] <;> rfl) s'⟩
  | move c p a =>
    walk_at "go"
    refine g_ixT (SqT.of ht) (show atI (deedV (.move c p a)) 0 = some (.str "move") from rfl) ?_
    walk_at "go"
    refine dec_F (by decide) ?_
    walk_at "go"
    unfold p3_law_answer
    walk_at "go"
    refine g_ixT (SqT.of ht) (show atI (deedV (.move c p a)) 0 = some (.str "move") from rfl) ?_
    walk_at "go"
    refine dec_F (by decide) ?_
    walk_at "go"
    unfold p2_law_answer
    walk_at "go"
    refine g_ixT (SqT.of ht) (show atI (deedV (.move c p a)) 0 = some (.str "move") from rfl) ?_
    walk_at "go"
    refine dec_T rfl ?_
    walk_at "go"
    refine B.meth ?_
    walk_at "go"
    refine g_ixT (SqT.of ht) (show atI (deedV (.move c p a)) 1 = some (.int c) from rfl) ?_
    walk_at "go"
    refine g_ixT (SqT.of ht) (show atI (deedV (.move c p a)) 2 = some (oV p) from rfl) ?_
    walk_at "go"
    exact ⟨b, fp, s, c, p, rfl, B, ok, sm, fun n s' e H' fp' B' k g => q (.num n) s' (by show (moveB s c p).map _ = _; rw [e] <;> rfl) _ H' fp' B' k g rfl, fun x e H' s' => qe x H' (by show (moveB s c p).map _ = _; rw [e] <;> rfl) s'⟩
  | cut c p a =>
    walk_at "go"
    refine g_ixT (SqT.of ht) (show atI (deedV (.cut c p a)) 0 = some (.str "cut") from rfl) ?_
    walk_at "go"
    refine dec_F (by decide) ?_
    walk_at "go"
    unfold p3_law_answer
    walk_at "go"
    refine g_ixT (SqT.of ht) (show atI (deedV (.cut c p a)) 0 = some (.str "cut") from rfl) ?_
    walk_at "go"
    refine dec_F (by decide) ?_
    walk_at "go"
    unfold p2_law_answer
    walk_at "go"
    refine g_ixT (SqT.of ht) (show atI (deedV (.cut c p a)) 0 = some (.str "cut") from rfl) ?_
    walk_at "go"
    refine dec_F (by decide) ?_
    walk_at "go"
    unfold p1_law_answer
    walk_at "go"
    refine g_ixT (SqT.of ht) (show atI (deedV (.cut c p a)) 0 = some (.str "cut") from rfl) ?_
    walk_at "go"
    refine dec_T rfl ?_
    walk_at "go"
    refine B.meth ?_
    walk_at "go"
    refine g_ixT (SqT.of ht) (show atI (deedV (.cut c p a)) 1 = some (.int c) from rfl) ?_
    walk_at "go"
    exact ⟨b, fp, s, c, rfl, B, ok, sm, fun g' s' e p' H' fp' B' k g hp' _ h' => q (.nms g') s' (by show (cutB s c).map _ = _; rw [e] <;> rfl) _ H' fp' B' k g ⟨p', rfl, hp', h'⟩, fun x e => qe x H (by show (cutB s c).map _ = _; rw [e] <;> rfl) (Same.refl _)⟩
  | undo c p a =>
    walk_at "go"
    refine g_ixT (SqT.of ht) (show atI (deedV (.undo c p a)) 0 = some (.str "undo") from rfl) ?_
    walk_at "go"
    refine dec_F (by decide) ?_
    walk_at "go"
    unfold p3_law_answer
    walk_at "go"
    refine g_ixT (SqT.of ht) (show atI (deedV (.undo c p a)) 0 = some (.str "undo") from rfl) ?_
    walk_at "go"
    refine dec_F (by decide) ?_
    walk_at "go"
    unfold p2_law_answer
    walk_at "go"
    refine g_ixT (SqT.of ht) (show atI (deedV (.undo c p a)) 0 = some (.str "undo") from rfl) ?_
    walk_at "go"
    refine dec_F (by decide) ?_
    walk_at "go"
    unfold p1_law_answer
    walk_at "go"
    refine g_ixT (SqT.of ht) (show atI (deedV (.undo c p a)) 0 = some (.str "undo") from rfl) ?_
    walk_at "go"
    refine dec_F (by decide) ?_
    walk_at "go"
    unfold p0_law_answer
    walk_at "go"
    refine B.meth ?_
    walk_at "go"
    exact ⟨b, fp, s, rfl, B, fun n s' e H' fp' B' k g => q (.num n) s' (by show (undoB s).map _ = _; rw [e] <;> rfl) _ H' fp' B' k g rfl, fun x e => qe x H (by show (undoB s).map _ = _; rw [e] <;> rfl) (Same.refl _)⟩
end
end K12

/-! ## PuE0 -/
/-! ### the laws' deeds -/
namespace Cor
open PySem PySem.Spec PyProof.Rows L2
abbrev DyeP : Str → Prop := fun d => ∃ c : Int, d = dyeS c
def Refused (x : String) : Prop := x = "NoCord" ∨ x = "Knotted" ∨ x = "NotEnd" ∨ x = "TooMuch" ∨ x = "Ring" ∨ x = "Nothing"
theorem dyeS_ok (c : Int) : PySem.PyData.strOk (dyeS c) = true := by
  have hm : abc.cps.toList.getD (c % 26).toNat 0 < 0x110000 := by
    have all : (abc.cps.toList.all fun x => decide (x < 0x110000)) = true := by decide +kernel
    rw [List.getD_eq_getElem?_getD]
    cases e : abc.cps.toList[(c % 26).toNat]? with
    | none => decide
    | some z => exact of_decide_eq_true (List.all_eq_true.mp all z (List.mem_of_getElem? e))
  show (#[abc.cps.toList.getD (c % 26).toNat 0].all fun x => decide (x < 0x110000)) = true
  rw [Array.all_eq_true]
  intro i hi
  have : i = 0 := by
    have h2 : i < 1 := hi
    omega
  subst this
  exact decide_eq_true hm
theorem hangB_err {s : Bk} {o : Option Int} {d : Str} {x : String} (e : hangB s o d = .error x) : Refused x := by
  cases o with
  | none => cases e
  | some c =>
    rw [hangB_some] at e
    cases h : rget s.R c with
    | none => rw [h] at e; cases e; exact .inl rfl
    | some w =>
      rw [h] at e
      dsimp only at e
      split at e
      · cases e; exact .inr (.inl rfl)
      · cases e
theorem layB_err {s : Bk} {c a : Int} {x : String} (e : layB s c a = .error x) : Refused x := by
  unfold layB at e
  split at e
  · rename_i y hy
    cases e
    cases h : rget s.R c with
    | none => rw [layX_none h] at hy; cases hy; exact .inl rfl
    | some w =>
      rw [layX_some h] at hy
      split at hy
      · cases hy; exact .inr (.inr (.inl rfl))
      · split at hy
        · cases hy; exact .inr (.inr (.inr (.inl rfl)))
        · cases hy
  · cases e
theorem moveB_err {s : Bk} {c : Int} {p : Option Int} {x : String} (e : moveB s c p = .error x) : Refused x := by
  rcases moveE_is (moveE_err e) with rfl | rfl | rfl | rfl
  · exact .inl rfl
  · exact .inr (.inr (.inr (.inr (.inl rfl))))
  · exact .inr (.inl rfl)
  · exact .inr (.inr (.inr (.inl rfl)))
theorem cutB_err {s : Bk} {c : Int} {x : String} (e : cutB s c = .error x) : Refused x := by
  unfold cutB at e
  split at e
  · cases e; exact .inl rfl
  · cases e
theorem undoB_err {s : Bk} {x : String} (e : undoB s = .error x) : Refused x := by
  unfold undoB at e
  split at e
  · cases e; exact .inr (.inr (.inr (.inr (.inr rfl))))
  · cases e
section
variable {K : PySem.W.Frag} {vs : List V} {H : Hp} {Q : VK} {E : XK}
/-- names, places -/
theorem at_name {l : List Int} (i : Int) (h0 : 0 ≤ i) (h1 : i < (l.length : Int) + 1) : ∃ c : Int, atI (l.map V.int ++ [V.int 61]) i = some (.int c) := by
  have e : l.map V.int ++ [V.int 61] = (l ++ [61]).map V.int := by rw [List.map_append] <;> rfl
  rw [e]
  exact ⟨_, atI_map h0 (by rw [List.length_append, List.length_singleton]; omega)⟩
theorem at_place {l : List Int} (i : Int) (h0 : 0 ≤ i) (h1 : i < (l.length : Int) + 2) : ∃ o : Option Int, atI ([V.non] ++ (l.map V.int ++ [V.int 61])) i = some (oV o) := by
  have e : [V.non] ++ (l.map V.int ++ [V.int 61]) = (none :: (l ++ [61]).map some).map oV := by
    rw [List.map_cons, List.map_map, List.map_append]
    show _ = V.non :: (l.map (oV ∘ some) ++ [V.int 61])
    congr 2
  rw [e]
  obtain ⟨v, hv, hm⟩ := atI_in (xs := (none :: (l ++ [61]).map some).map oV) h0 (by rw [List.length_map, List.length_cons, List.length_map, List.length_append, List.length_singleton]; omega)
  obtain ⟨o, _, rfl⟩ := List.mem_map.mp hm
  exact ⟨o, hv⟩
/-- an amount laid leaves the names -/
def LayK (c : Int) (s s' : Bk) : Prop := 4 ≤ c % 10 ∧ c % 10 < 7 → keysR s'.R = keysR s.R
theorem layB_keys {s s' : Bk} (ok : OkB s) {c a n : Int} (e : layB s c a = .ok (n, s')) : keysR s'.R = keysR s.R := by
  obtain ⟨_, _, _, rfl⟩ := layB_ok ok e
  exact shape_keys (shape_grow _ _ _)
end
end Cor

/-! ## PuDs -/
namespace K12
open PySem PySem.Spec PyProof.Rows L2 Cor
/-- the six refusals of a book -/
def six : List String := ["NoCord", "Knotted", "NotEnd", "Ring", "TooMuch", "Nothing"]
def AllE (K : PySem.W.Frag) : Prop := ∀ x ∈ six, ∀ y ∈ six, Exm K (Str.ofString x) (Str.ofString y) (decide (x = y))
def allEB : Pd := fun K => six.all fun x => six.all fun y => exmB (Str.ofString x) (Str.ofString y) (decide (x = y)) K
theorem allEB_ok {K : PySem.W.Frag} (h : allEB K = true) : AllE K := fun x hx y hy => exmB_ok (List.all_eq_true.mp (List.all_eq_true.mp h x hx) y hy)
theorem deedB_err {s : Bk} {dd : Deed Str} {x : String} (e : deedB s dd = .error x) : Refused x := by
  cases dd with
  | hang c p d => exact hangB_err (map_err e)
  | lay c p a => exact layB_err (map_err e)
  | move c p a => exact moveB_err (map_err e)
  | cut c p a => exact cutB_err (map_err e)
  | undo c p a => exact undoB_err (map_err e)
theorem AnsV.later {H H1 H2 : Hp} {v : V} {a : MA} (h : AnsV H H1 v a) (s : Same H1 H2) : AnsV H H2 v a := by
  cases a with
  | non => exact h
  | num n => exact h
  | nms l =>
    obtain ⟨p, e1, e2, e3⟩ := h
    exact ⟨p, e1, e2, s _ _ e3⟩
section
variable {K : PySem.W.Frag} {vs : List V} {H : Hp} {Q : VK} {E : XK}
def sp_law_done (K : PySem.W.Frag) : Sp := fun vs H Q _ => ∃ b fp s t, ∃ dd : Deed Str, vs = [.ref b, .ref t] ∧ Book K H b fp s ∧ OkB s ∧ Small s ∧ H t = some (.tup (deedV dd)) ∧
  (∀ a s', deedB s dd = .ok (a, s') → ∀ r v H' fp', Book K H' b fp' s' → Keeps fp H H' → Grows fp fp' H → AnsV H H' v a → H' r = some (.tup [.str "done", v]) → Q (.ref r) H') ∧
  ∀ x r H', deedB s dd = .error x → Same H H' → H' r = some (.tup [.str (Str.ofString (wayS x)), .non]) → Q (.ref r) H'
/-- _law_done: slots book, deed, found, way -/
def p0_law_done (K : PySem.W.Frag) (E : XK) : TS :=
  tRet (tTup (tCons (tVar 3) (tCons (tVar 2) tNil)))
def t_law_done (K : PySem.W.Frag) (E : XK) : TS :=
  tSeq (tAsg (tC .non) (gName 2)) (tSeq (tAsg (tC (.str "done")) (gName 3)) (tSeq (tTryM K [((Value.ref (He.ga K "NoCord")), fun a cls d => tAsg (tC (.str "no cord")) (gName 3)), ((Value.ref (He.ga K "Knotted")), fun a cls d => tAsg (tC (.str "knotted")) (gName 3)), ((Value.ref (He.ga K "NotEnd")), fun a cls d => tAsg (tC (.str "no end")) (gName 3)), ((Value.ref (He.ga K "Ring")), fun a cls d => tAsg (tC (.str "ring")) (gName 3)), ((Value.ref (He.ga K "TooMuch")), fun a cls d => tAsg (tC (.str "too much")) (gName 3)), ((Value.ref (He.ga K "Nothing")), fun a cls d => tAsg (tC (.str "nothing")) (gName 3))] (fun W => tAsg (tCallS (sp_law_answer K) (WE W) (tCons (tVar 0) (tCons (tVar 1) tNil))) (gName 2))) (p0_law_done K E)))
abbrev n_law_done : List Str := ["book", "deed", "found", "way"]

theorem len_law_done (h : sp_law_done K vs H Q E) : vs.length = (["book", "deed"] : List Str).length := by
  obtain ⟨_, _, _, _, _, rfl, _⟩ := h
  rfl
theorem pure_law_done (K : PySem.W.Frag) (X : AllE K) (vs : List V) (H : Hp) (Q : VK) (E : XK) (h : sp_law_done K vs H Q E) : t_law_done K E { nx := fun _ H' => Q .non H', rt := Q } (start n_law_done vs) H := by
  obtain ⟨b, fp, s, t, dd, rfl, B, ok, sm, ht, q, qe⟩ := h
  unfold t_law_done
  walk_at "go"
  refine ⟨b, fp, s, t, dd, rfl, B, ok, sm, ht, fun a s' e v H1 fp1 B1 k1 g1 av => ?_, fun x H1 e s1 => ?_⟩
  · walk_at "go"
    unfold p0_law_done
    walk_at "go"
    intro r hr
    have s2 : Same H1 (upd H1 r (.tup [.str "done", v])) := same_new hr
    exact q a s' e r v _ fp1 (B1.same s2) (keeps_new k1 hr) g1 (av.later s2) upd_same
  · have hx := deedB_err e
    have X1 : ∀ y ∈ six, x ∈ six → Exm K (Str.ofString x) (Str.ofString y) (decide (x = y)) := fun y hy hx => X x hx y hy
    rcases hx with rfl | rfl | rfl | rfl | rfl | rfl
    · refine wmany_hit (x := "NoCord") (y := "NoCord") (X1 "NoCord" (by decide) (by decide)) fun a ha => ?_
      walk_at "go"
      unfold p0_law_done
      walk_at "go"
      intro r hr
      exact qe _ r _ e (s1.trans (same_new hr)) upd_same
    · refine wmany_skip (x := "Knotted") (y := "NoCord") (X1 "NoCord" (by decide) (by decide)) (wmany_hit (x := "Knotted") (y := "Knotted") (X1 "Knotted" (by decide) (by decide)) fun a ha => ?_)
      walk_at "go"
      unfold p0_law_done
      walk_at "go"
      intro r hr
      exact qe _ r _ e (s1.trans (same_new hr)) upd_same
    · refine wmany_skip (x := "NotEnd") (y := "NoCord") (X1 "NoCord" (by decide) (by decide)) (wmany_skip (x := "NotEnd") (y := "Knotted") (X1 "Knotted" (by decide) (by decide)) (wmany_hit (x := "NotEnd") (y := "NotEnd") (X1 "NotEnd" (by decide) (by decide)) fun a ha => ?_))
      walk_at "go"
      unfold p0_law_done
      walk_at "go"
      intro r hr
      exact qe _ r _ e (s1.trans (same_new hr)) upd_same
    · refine wmany_skip (x := "TooMuch") (y := "NoCord") (X1 "NoCord" (by decide) (by decide)) (wmany_skip (x := "TooMuch") (y := "Knotted") (X1 "Knotted" (by decide) (by decide)) (wmany_skip (x := "TooMuch") (y := "NotEnd") (X1 "NotEnd" (by decide) (by decide)) (wmany_skip (x := "TooMuch") (y := "Ring") (X1 "Ring" (by decide) (by decide)) (wmany_hit (x := "TooMuch") (y := "TooMuch") (X1 "TooMuch" (by decide) (by decide)) fun a ha => ?_))))
      walk_at "go"
      unfold p0_law_done
      walk_at "go"
      intro r hr
      exact qe _ r _ e (s1.trans (same_new hr)) upd_same
    · refine wmany_skip (x := "Ring") (y := "NoCord") (X1 "NoCord" (by decide) (by decide)) (wmany_skip (x := "Ring") (y := "Knotted") (X1 "Knotted" (by decide) (by decide)) (wmany_skip (x := "Ring") (y := "NotEnd") (X1 "NotEnd" (by decide) (by decide)) (wmany_hit (x := "Ring") (y := "Ring") (X1 "Ring" (by decide) (by decide)) fun a ha => ?_)))
      walk_at "go"
      unfold p0_law_done
      walk_at "go"
      intro r hr
      exact qe _ r _ e (s1.trans (same_new hr)) upd_same
    · refine wmany_skip (x := "Nothing") (y := "NoCord") (X1 "NoCord" (by decide) (by decide)) (wmany_skip (x := "Nothing") (y := "Knotted") (X1 "Knotted" (by decide) (by decide)) (wmany_skip (x := "Nothing") (y := "NotEnd") (X1 "NotEnd" (by decide) (by decide)) (wmany_skip (x := "Nothing") (y := "Ring") (X1 "Ring" (by decide) (by decide)) (wmany_skip (x := "Nothing") (y := "TooMuch") (X1 "TooMuch" (by decide) (by decide)) (wmany_hit (x := "Nothing") (y := "Nothing") (X1 "Nothing" (by decide) (by decide)) fun a ha => ?_)))))
      walk_at "go"
      unfold p0_law_done
      walk_at "go"
      intro r hr
      exact qe _ r _ e (s1.trans (same_new hr)) upd_same
theorem kind_at {i : Int} (h0 : 0 ≤ i) (h1 : i < 12) : ∃ k : Str, atI [V.str "hang", V.str "hang", V.str "hang", V.str "hang", V.str "lay", V.str "lay", V.str "lay", V.str "move", V.str "move", V.str "cut", V.str "undo", V.str "undo"] i = some (.str k) ∧
    (k = "hang" ∨ k = "lay" ∨ k = "move" ∨ k = "cut" ∨ k = "undo") := by
  obtain ⟨j, rfl⟩ : ∃ j : Nat, i = (j : Int) := ⟨i.toNat, by omega⟩
  have hj : j < 12 := by omega
  match j, hj with
  | 0, _ => exact ⟨_, rfl, .inl rfl⟩
  | 1, _ => exact ⟨_, rfl, .inl rfl⟩
  | 2, _ => exact ⟨_, rfl, .inl rfl⟩
  | 3, _ => exact ⟨_, rfl, .inl rfl⟩
  | 4, _ => exact ⟨_, rfl, .inr (.inl rfl)⟩
  | 5, _ => exact ⟨_, rfl, .inr (.inl rfl)⟩
  | 6, _ => exact ⟨_, rfl, .inr (.inl rfl)⟩
  | 7, _ => exact ⟨_, rfl, .inr (.inr (.inl rfl))⟩
  | 8, _ => exact ⟨_, rfl, .inr (.inr (.inl rfl))⟩
  | 9, _ => exact ⟨_, rfl, .inr (.inr (.inr (.inl rfl)))⟩
  | 10, _ => exact ⟨_, rfl, .inr (.inr (.inr (.inr rfl)))⟩
  | 11, _ => exact ⟨_, rfl, .inr (.inr (.inr (.inr rfl)))⟩
def sp_law_drawn (K : PySem.W.Frag) : Sp := fun vs H Q _ => ∃ d M f c o, vs = [.ref d, .int f, .int c, .int o] ∧ UD H d M ∧ Asc (keysR M) ∧ M.length ≤ 900 ∧ 0 ≤ f ∧ ∀ t H' dd, Same H H' → H t = none → H' t = some (.tup (deedV dd)) → Q (.ref t) H'
/-- _law_drawn: slots rows, following, cell, other, names, cord, places, place, kind -/
def p0_law_drawn (K : PySem.W.Frag) (E : XK) : TS :=
  tRet (tTup (tCons (tVar 8) (tCons (tVar 5) (tCons (tVar 7) (tCons (tOp rSubI (tOp rModI (tVar 3) (tC (.int 1300))) (tC (.int 300))) tNil)))))
def t_law_drawn (K : PySem.W.Frag) (E : XK) : TS :=
  tSeq (tAsg (tOp rCat (tCB (rSortedI K) (tCons (tCB rListR (tCons (tVar 0) tNil)) tNil)) (tLst (tCons (tOp rModI (tOp rDivI (tVar 3) (tC (.int 29))) (tOp rAddI (tVar 1) (tC (.int 1)))) (tCons (tC (.int 61)) tNil)))) (gName 4)) (tSeq (tAsg (tOp (rIxL K) (tVar 4) (tOp rModI (tOp rDivI (tVar 2) (tC (.int 12))) (tCB (rLenL K) (tCons (tVar 4) tNil)))) (gName 5)) (tSeq (tAsg (tOp rCat (tLst (tCons (tC .non) tNil)) (tVar 4)) (gName 6)) (tSeq (tAsg (tOp (rIxL K) (tVar 6) (tOp rModI (tOp rAddI (tOp rDivI (tVar 2) (tC (.int 12))) (tVar 3)) (tCB (rLenL K) (tCons (tVar 6) tNil)))) (gName 7)) (tSeq (tAsg (tOp (rIxL K) (tLst (tCons (tC (.str "hang")) (tCons (tC (.str "hang")) (tCons (tC (.str "hang")) (tCons (tC (.str "hang")) (tCons (tC (.str "lay")) (tCons (tC (.str "lay")) (tCons (tC (.str "lay")) (tCons (tC (.str "move")) (tCons (tC (.str "move")) (tCons (tC (.str "cut")) (tCons (tC (.str "undo")) (tCons (tC (.str "undo")) tNil))))))))))))) (tOp rModI (tVar 2) (tC (.int 12)))) (gName 8)) (tSeq (tIfS (tTest (tOp rEq (tVar 8) (tC (.str "hang")))) (tRet (tTup (tCons (tVar 8) (tCons (tVar 5) (tCons (tVar 7) (tCons (tOp rIxS (tC (.str "abcdefghijklmnopqrstuvwxyz")) (tOp rModI (tVar 3) (tC (.int 26)))) tNil)))))) tNext) (p0_law_drawn K E))))))
abbrev n_law_drawn : List Str := ["rows", "following", "cell", "other", "names", "cord", "places", "place", "kind"]

theorem len_law_drawn (h : sp_law_drawn K vs H Q E) : vs.length = (["rows", "following", "cell", "other"] : List Str).length := by
  obtain ⟨_, _, _, _, _, rfl, _⟩ := h
  rfl
theorem pure_law_drawn (K : PySem.W.Frag) (vs : List V) (H : Hp) (Q : VK) (E : XK) (h : sp_law_drawn K vs H Q E) : t_law_drawn K E { nx := fun _ H' => Q .non H', rt := Q } (start n_law_drawn vs) H := by
  obtain ⟨d, M, f, c, o, rfl, B, asc, hlen, hf, q⟩ := h
  have hkl := keys_len9 hlen
  unfold t_law_drawn
  walk_at "go"
  refine B.md.lst fun p1 hp1 => ?_
  walk_at "go"
  have s1 : Same H (upd H p1 (.lst ((keysR M).map V.int))) := same_new hp1
  refine ⟨p1, keysR M, rfl, SqL.of upd_same, fun ns' p2 pm rising hp2 => ?_⟩
  have e := asc_perm asc pm rising
  subst e
  have s2 := s1.trans (same_new (o := .lst ((keysR M).map V.int)) hp2)
  obtain ⟨H2, e2⟩ : ∃ H2, H2 = upd (upd H p1 (.lst ((keysR M).map V.int))) p2 (.lst ((keysR M).map V.int)) := ⟨_, rfl⟩
  have h2 : H2 p2 = some (.lst ((keysR M).map V.int)) := by rw [e2]; exact upd_same
  rw [← e2] at s2 ⊢
  clear e2
  walk_at "go"
  intro p3 hp3
  have s3 : Same H2 (upd H2 p3 (.lst [V.int (o / 29 % (f + 1)), V.int 61])) := same_new hp3
  refine g_cat (s3 _ _ h2) upd_same (by rw [List.length_map]; show _ + 2 ≤ _; omega) fun p4 hp4 => ?_
  have eN : (keysR M).map V.int ++ [V.int (o / 29 % (f + 1)), V.int 61] = (keysR M ++ [o / 29 % (f + 1), 61]).map V.int := by rw [List.map_append] <;> rfl
  rw [eN]
  have hNl : (keysR M ++ [o / 29 % (f + 1), 61]).length = (keysR M).length + 2 := by rw [List.length_append] <;> rfl
  generalize keysR M ++ [o / 29 % (f + 1), 61] = N at *
  have s4 : Same (upd H2 p3 (.lst [V.int (o / 29 % (f + 1)), V.int 61])) (upd (upd H2 p3 (.lst [V.int (o / 29 % (f + 1)), V.int 61])) p4 (.lst (N.map V.int))) := same_new hp4
  obtain ⟨H4, e4⟩ : ∃ H4, H4 = upd (upd H2 p3 (.lst [V.int (o / 29 % (f + 1)), V.int 61])) p4 (.lst (N.map V.int)) := ⟨_, rfl⟩
  have h4 : H4 p4 = some (.lst (N.map V.int)) := by rw [e4]; exact upd_same
  have s04 : Same H H4 := by rw [e4]; exact (s2.trans s3).trans s4
  rw [← e4]
  clear e4
  walk_at "go"
  refine g_lenL (SqL.of h4) ?_
  rw [List.length_map]
  walk_at "go"
  obtain ⟨v1, a1, m1⟩ := atI_in (xs := N.map V.int) (k := c / 12 % (N.length : Int)) (Int.emod_nonneg _ (by omega)) (by rw [List.length_map]; exact Int.emod_lt_of_pos _ (by omega))
  obtain ⟨cord, _, rfl⟩ := List.mem_map.mp m1
  refine g_ixL (SqL.of h4) a1 ?_
  walk_at "go"
  intro p5 hp5
  have s5 : Same H4 (upd H4 p5 (.lst [V.non])) := same_new hp5
  walk_at "go"
  refine g_cat upd_same (s5 _ _ h4) (by rw [List.length_map]; show 1 + _ ≤ _; omega) fun p6 hp6 => ?_
  have eP : [V.non] ++ N.map V.int = (none :: N.map some).map oV := by rw [List.map_cons, List.map_map] <;> rfl
  rw [eP]
  have hPl : ((none : Option Int) :: N.map some).length = N.length + 1 := by rw [List.length_cons, List.length_map]
  generalize (none : Option Int) :: N.map some = P at *
  obtain ⟨H6, e6⟩ : ∃ H6, H6 = upd (upd H4 p5 (.lst [V.non])) p6 (.lst (P.map oV)) := ⟨_, rfl⟩
  have h6 : H6 p6 = some (.lst (P.map oV)) := by rw [e6]; exact upd_same
  have s06 : Same H H6 := by rw [e6]; exact (s04.trans s5).trans (same_new hp6)
  rw [← e6]
  clear e6
  walk_at "go"
  refine g_lenL (SqL.of h6) ?_
  rw [List.length_map]
  walk_at "go"
  obtain ⟨v2, a2, m2⟩ := atI_in (xs := P.map oV) (k := (c / 12 + o) % (P.length : Int)) (Int.emod_nonneg _ (by omega)) (by rw [List.length_map]; exact Int.emod_lt_of_pos _ (by omega))
  obtain ⟨place, _, rfl⟩ := List.mem_map.mp m2
  refine g_ixL (SqL.of h6) a2 ?_
  walk_at "go"
  intro p7 hp7
  walk_at "go"
  obtain ⟨k, ek, hk⟩ := kind_at (i := c % 12) (by omega) (by omega)
  refine g_ixL (SqL.of upd_same) ek ?_
  have s07 := s06.trans (same_new (o := .lst [V.str "hang", V.str "hang", V.str "hang", V.str "hang", V.str "lay", V.str "lay", V.str "lay", V.str "move", V.str "move", V.str "cut", V.str "undo", V.str "undo"]) hp7)
  obtain ⟨H7, e7⟩ : ∃ H7, H7 = upd H6 p7 (.lst [V.str "hang", V.str "hang", V.str "hang", V.str "hang", V.str "lay", V.str "lay", V.str "lay", V.str "move", V.str "move", V.str "cut", V.str "undo", V.str "undo"]) := ⟨_, rfl⟩
  rw [← e7] at s07
  rw [← e7]
  clear e7
  walk_at "go"
  rcases hk with rfl | rfl | rfl | rfl | rfl
  · refine dec_T rfl ?_
    walk_at "go"
    obtain ⟨ch, ec, _⟩ := atI_in (xs := ("abcdefghijklmnopqrstuvwxyz" : Str).cps.toList) (k := o % 26) (by omega) (by
      have : (("abcdefghijklmnopqrstuvwxyz" : Str).cps.toList.length : Int) = 26 := by decide +kernel
      omega)
    refine g_ixS (by decide +kernel) ec ?_
    walk_at "go"
    intro t ht
    exact q t _ (.hang cord place ⟨#[ch]⟩) (s07.trans (same_new ht)) (s07.free ht) upd_same
  all_goals
    refine dec_F (by decide) ?_
    walk_at "go"
    unfold p0_law_drawn
    walk_at "go"
    intro t ht
  · exact q t _ (.lay cord place (o % 1300 - 300)) (s07.trans (same_new ht)) (s07.free ht) upd_same
  · exact q t _ (.move cord place (o % 1300 - 300)) (s07.trans (same_new ht)) (s07.free ht) upd_same
  · exact q t _ (.cut cord place (o % 1300 - 300)) (s07.trans (same_new ht)) (s07.free ht) upd_same
  · exact q t _ (.undo cord place (o % 1300 - 300)) (s07.trans (same_new ht)) (s07.free ht) upd_same
end
end K12

/-! ## PuDt -/
namespace K12
open PySem PySem.Spec PyProof.Rows L2 Cor
section
variable {K : PySem.W.Frag} {vs : List V} {H : Hp} {Q : VK} {E : XK}
theorem book_lock {b d : Addr} {fp : List Addr} {s : Bk} {kvs : List (Key × V)} {od : Obj} (B : Book K H b fp s) (hd : H d = some (.dK kvs)) (hn : d ∉ fp) : Book K (upd H d (.frz od (.dK kvs))) b fp s := by
  obtain ⟨dx, d1, l, ds, kv1, pvs, rfl, h1, h2, h3, h4, h5, h6⟩ := B
  have kt : ∀ a xs, H a = some (.tup xs) → upd H d (.frz od (.dK kvs)) a = some (.tup xs) := fun a xs z => by rw [upd_ne (ne_of z hd (by intro y; cases y))]; exact z
  have ne : ∀ a, a ∈ b :: d1 :: l :: ds → a ≠ d := fun a ha z => hn (by rw [← z]; exact ha)
  exact ⟨dx, d1, l, ds, kv1, pvs, rfl, by rw [upd_ne (ne b (by simp))]; exact h1, by rw [upd_ne (ne d1 (by simp))]; exact h2, h3.mono kt, by rw [upd_ne (ne l (by simp))]; exact h4, h5.mono kt fun a ha u hu => by rw [upd_ne (ne a (by simp [ha]))]; exact hu, h6⟩
def sp_law_alike (K : PySem.W.Frag) : Sp := fun vs H Q _ => ∃ b fp s d M, vs = [.ref b, .ref d] ∧ Book K H b fp s ∧ OkB s ∧ s.R.length ≤ 900 ∧ Mod s.R M ∧ UD H d M ∧ d ∉ fp ∧ ∀ H', Same H H' → Q (.bl true) H'
/-- _law_alike: slots book, rows, names, over, name -/
def p0_law_alike (K : PySem.W.Frag) (E : XK) : TS :=
  tIfS (tNot (tB (tCall (sp_law_same K) [] E0 (tCons (tMeth (He.ga K "Book") "hangers" (sp_Book_hangers K) [] E0 (tVar 0) (tCons (tVar 3) tNil)) (tCons (tLc (iList K (tVar 2)) (gName 4) (tTest (tOp rEq (tOp (rIxT K) (tDGet (tVar 1) (tVar 4)) (tC (.int 0))) (tVar 3))) (tVar 4) [4]) tNil))))) (tRet (tC (.bl false))) tNext
def p1_law_alike (K : PySem.W.Frag) (E : XK) : TS :=
  tIfS (tOr (tNot (tB (tCall (sp_law_whole K) [] E0 (tCons (tMeth (He.ga K "Book") "number" (sp_Book_number K) [] E0 (tVar 0) (tCons (tVar 4) tNil)) tNil)))) (tTest (tOp rNe (tMeth (He.ga K "Book") "number" (sp_Book_number K) [] E0 (tVar 0) (tCons (tVar 4) tNil)) (tCall (sp_law_number K) [] E0 (tCons (tVar 1) (tCons (tVar 4) tNil)))))) (tRet (tC (.bl false))) tNext
def p2_law_alike (K : PySem.W.Frag) (E : XK) : TS :=
  tSeq (tIfS (tOr (tTest (tOp rNe (tVar 3) (tOp (rIxT K) (tDGet (tVar 1) (tVar 4)) (tC (.int 0))))) (tTest (tOp rNe (tMeth (He.ga K "Book") "dye" (sp_Book_dye K) [] E0 (tVar 0) (tCons (tVar 4) tNil)) (tOp (rIxT K) (tDGet (tVar 1) (tVar 4)) (tC (.int 1)))))) (tRet (tC (.bl false))) tNext) (p1_law_alike K E)
def p3_law_alike (K : PySem.W.Frag) (E : XK) : TS :=
  tSeq (tAsg (tMeth (He.ga K "Book") "over" (sp_Book_over K) [] E0 (tVar 0) (tCons (tVar 4) tNil)) (gName 3)) (tSeq (tIfS (tOr (tAnd (tTest (tOp rIsN (tOp (rIxT K) (tDGet (tVar 1) (tVar 4)) (tC (.int 0))) (tC .non))) (tTest (tOp rNotN (tVar 3) (tC .non)))) (tAnd (tTest (tOp rNotN (tOp (rIxT K) (tDGet (tVar 1) (tVar 4)) (tC (.int 0))) (tC .non))) (tNot (tB (tCall (sp_law_whole K) [] E0 (tCons (tVar 3) tNil)))))) (tRet (tC (.bl false))) tNext) (p2_law_alike K E))
def p4_law_alike (K : PySem.W.Frag) (E : XK) : TS :=
  tSeq (tLock (tFor (iKeys (tVar 1)) (gName 4) (p3_law_alike K E))) (tRet (tC (.bl true)))
def p5_law_alike (K : PySem.W.Frag) (E : XK) : TS :=
  tSeq (tFor (iList K (tOp rCat (tLst (tCons (tC .non) tNil)) (tVar 2))) (gName 3) (p0_law_alike K E)) (p4_law_alike K E)
def t_law_alike (K : PySem.W.Frag) (E : XK) : TS :=
  tSeq (tAsg (tCB (rSortedI K) (tCons (tCB rListR (tCons (tVar 1) tNil)) tNil)) (gName 2)) (tSeq (tIfS (tNot (tB (tCall (sp_law_same K) [] E0 (tCons (tMeth (He.ga K "Book") "cords" (sp_Book_cords K) [] E0 (tVar 0) tNil) (tCons (tVar 2) tNil))))) (tRet (tC (.bl false))) tNext) (p5_law_alike K E))
abbrev n_law_alike : List Str := ["book", "rows", "names", "over", "name"]

theorem len_law_alike (h : sp_law_alike K vs H Q E) : vs.length = (["book", "rows"] : List Str).length := by
  obtain ⟨_, _, _, _, _, rfl, _⟩ := h
  rfl
theorem pure_law_alike (K : PySem.W.Frag) (vs : List V) (H : Hp) (Q : VK) (E : XK) (h : sp_law_alike K vs H Q E) : t_law_alike K E { nx := fun _ H' => Q .non H', rt := Q } (start n_law_alike vs) H := by
  obtain ⟨b, fp, s, d, M, rfl, B, ok, hl9, ⟨own, O, eM, lo⟩, U, hdf, q⟩ := h
  have wf := ok.now.wf
  have ek : keysR M = keysR s.R := by rw [eM, omap_keys]
  have hlM : M.length ≤ 900 := by
    have := congrArg List.length ek
    unfold keysR at this
    rw [List.length_map, List.length_map] at this
    omega
  have wfM : Wf M := by rw [eM]; exact omap_wf wf
  have hkl := keys_len9 hlM
  have hhM : ∀ o, hangR M o = hangR s.R o := fun o => by rw [eM, omap_hang]
  unfold t_law_alike
  walk_at "go"
  refine U.md.lst fun p1 hp1 => ?_
  walk_at "go"
  have s1 : Same H (upd H p1 (.lst ((keysR M).map V.int))) := same_new hp1
  refine ⟨p1, keysR M, rfl, SqL.of upd_same, fun ns' p2 pm rising hp2 => ?_⟩
  have e := asc_perm wfM.asc pm rising
  subst e
  have s2 := s1.trans (same_new (o := .lst ((keysR M).map V.int)) hp2)
  obtain ⟨H2, e2⟩ : ∃ H2, H2 = upd (upd H p1 (.lst ((keysR M).map V.int))) p2 (.lst ((keysR M).map V.int)) := ⟨_, rfl⟩
  have h2 : H2 p2 = some (.lst ((keysR M).map V.int)) := by rw [e2]; exact upd_same
  rw [← e2] at s2 ⊢
  clear e2
  walk_at "go"
  refine (B.same s2).meth ?_
  walk_at "go"
  refine ⟨b, fp, s, rfl, B.same s2, wf.asc, fun p3 H3 hp3 s3 h3 => ?_⟩
  walk_at "go"
  refine ⟨p3, p2, keysR s.R, rfl, h3, SqL.of (by rw [← ek]; exact s3 _ _ h2), by rw [← ek]; omega, ?_⟩
  walk_at "go"
  unfold p5_law_alike
  walk_at "go"
  refine g_forL ?_
  walk_at "go"
  intro p4 hp4
  have s4 : Same H3 (upd H3 p4 (.lst [V.non])) := same_new hp4
  walk_at "go"
  refine g_cat upd_same (s4 _ _ (s3 _ _ h2)) (by rw [List.length_map]; show 1 + _ ≤ _; omega) fun p5 hp5 => ?_
  have eP : [V.non] ++ (keysR M).map V.int = (none :: (keysR M).map some).map oV := by rw [List.map_cons, List.map_map] <;> rfl
  rw [eP]
  obtain ⟨H5, e5⟩ : ∃ H5, H5 = upd (upd H3 p4 (.lst [V.non])) p5 (.lst ((none :: (keysR M).map some).map oV)) := ⟨_, rfl⟩
  have h5 : H5 p5 = some (.lst ((none :: (keysR M).map some).map oV)) := by rw [e5]; exact upd_same
  have s35 : Same H3 H5 := by rw [e5]; exact s4.trans (same_new hp5)
  rw [← e5]
  clear e5
  have s05 := (s2.trans s3).trans s35
  have h25 := s35 _ _ (s3 _ _ h2)
  refine for_go (xs := (none :: (keysR M).map some).map oV) ?_
  refine forL_run (fun l r σ H' => ∃ L1 L2 w3, l = L1.map oV ∧ r = L2.map oV ∧ L1 ++ L2 = (none :: (keysR M).map some) ∧ Same H5 H' ∧ σ = [some (.ref b), some (.ref d), some (.ref p2), w3, none]) ?_ ?_ ?_ ⟨[], _, _, rfl, rfl, rfl, Same.refl _, rfl⟩
  · rintro l r σ H' ⟨_, _, _, _, _, _, s6, _⟩
    exact SqL.of (s6 _ _ h5)
  · rintro l x r σ H6 N ⟨L1, L2, w3, rfl, er, eL, s6, rfl⟩ hN
    cases L2 with
    | nil => cases er
    | cons o L2 =>
      rw [List.map_cons] at er
      injection er with er1 er2
      subst er1 er2
      have ho : ∀ k, o = some k → ∃ w, rget s.R k = some w := fun k ek2 => by
        have hm : some k ∈ (none :: (keysR M).map some) := by rw [← eL, ← ek2]; simp
        rcases List.mem_cons.mp hm with z | hm
        · cases z
        · obtain ⟨k2, hk2, e3⟩ := List.mem_map.mp hm
          cases e3
          exact key_rget (by rw [← ek]; exact hk2)
      have s06 := s05.trans s6
      walk_at "go"
      unfold p0_law_alike
      walk_at "go"
      refine (B.same s06).meth ?_
      walk_at "go"
      refine ⟨b, fp, s, o, rfl, B.same s06, wf.asc, by omega, fun p7 H7 _ hp7 s7 h7 => ?_, fun k ek2 en => by (obtain ⟨w, ew⟩ := ho k ek2; rw [ew] at en; cases en)⟩
      have s07 := s06.trans s7
      have h27 := s7 _ _ (s6 _ _ h25)
      walk_at "go"
      refine g_lcL ?_
      walk_at "go"
      refine lc_go (SqL.of h27) fun L hL => ?_
      refine lcK_map V.int (fun y => if (rget M y).map (·.1) = some o then some (V.int y) else none) hL (SqL.of h27) (fun y hy H8 R8 s8 r8 => ?_) (by omega) (same_new hL) upd_same fun H8 s8 h8 => ?_
      · obtain ⟨w, ew⟩ := key_rget hy
        have r8 := r8 H8 (Same.refl _)
        rw [ew, Option.map_some] at r8
        walk_at "go"
        refine MD.rowC (U.same (s07.trans s8)).md ew rfl (show atI (rowV w) 0 = some (oV w.1) from rfl) ?_
        walk_at "go"
        refine g_eqO ?_
        walk_at "go"
        refine g_iteD (fun z => ?_) (fun z => ?_)
        · rw [if_pos (by rw [z])] at r8
          walk_at "go"
          exact r8
        · rw [if_neg (fun y => z (Option.some.inj y))] at r8
          exact r8
      have e3 : (keysR M).filterMap (fun y => if (rget M y).map (·.1) = some o then some (V.int y) else none) = (hangR M o).map V.int := by
        have key : ∀ R0 : Rows, (∀ p ∈ R0, rget M p.1 = some p.2) → (keysR R0).filterMap (fun y => if (rget M y).map (·.1) = some o then some (V.int y) else none) = (hangR R0 o).map V.int := by
          intro R0 hR
          induction R0 with
          | nil => rfl
          | cons p r ih =>
            have ih := ih fun p2 hp2 => hR p2 (List.mem_cons_of_mem _ hp2)
            have hp := hR p List.mem_cons_self
            unfold keysR at ih ⊢
            unfold hangR at ih ⊢
            rw [List.map_cons, List.filterMap_cons, List.filter_cons, hp, Option.map_some]
            by_cases z : p.2.1 = o
            · rw [if_pos (by rw [z]), if_pos (decide_eq_true z), List.map_cons, List.map_cons, ih]
            · rw [if_neg (fun y => z (Option.some.inj y)), if_neg (by rw [decide_eq_false z]; exact Bool.false_ne_true), ih]
        exact key M fun p hp => mem_rget wfM.nd hp
      rw [e3, hhM] at h8
      walk_at "go"
      refine ⟨p7, L, hangR s.R o, rfl, s8 _ _ h7, SqL.of h8, Nat.le_trans hang_len (by omega), ?_⟩
      walk_at "go"
      exact hN _ _ ⟨L1 ++ [o], L2, _, by rw [List.map_append] <;> rfl, rfl, by rw [← eL, List.append_assoc] <;> rfl, s6.trans (s7.trans s8), rfl⟩
  · rintro σ H6 ⟨L1, L2, w3, el, er, eL, s6, rfl⟩
    have s06 := s05.trans s6
    obtain ⟨kvs, hd6, hr6⟩ := U.same s06
    have B6 := B.same s06
    show p4_law_alike K E _ _ _
    unfold p4_law_alike
    walk_at "go"
    refine g_forK rfl hd6 H6 (Same.refl _) hd6 (fun j σ H' => ∃ w3 w4, σ = [some (.ref b), some (.ref d), some (.ref p2), w3, w4]) (fun od => ⟨_, _, rfl⟩) ?_ ?_
    · rintro od j k v σ1 H7 N ekv s7 ⟨w3, w4, rfl⟩ hN
      obtain ⟨pr, epr, rfl, t5, rfl, ht5⟩ := rows_at hr6 ekv
      have eg : rget M pr.1 = some pr.2 := mem_rget wfM.nd (List.mem_of_getElem? epr)
      have hk : pr.1 ∈ keysR s.R := by rw [← ek]; exact rget_key eg
      obtain ⟨w, ew⟩ := key_rget hk
      have eg2 : pr.2 = (w.1, w.2.1, own pr.1) := by
        have := eg
        rw [eM, omap_get, ew] at this
        exact (Option.some.inj this).symm
      have B7 := (book_lock (od := od) B6 hd6 hdf).same s7
      have M7 := (MD.locked (od := od) hd6 hr6).same s7
      have a0 : atI (rowV pr.2) 0 = some (oV w.1) := by rw [eg2] <;> rfl
      have a1 : atI (rowV pr.2) 1 = some (.str w.2.1) := by rw [eg2] <;> rfl
      show gName 4 (.int pr.1) _ _ _
      walk_at "go"
      unfold p3_law_alike
      walk_at "go"
      refine B7.meth ?_
      walk_at "go"
      refine ⟨b, fp, s, pr.1, rfl, B7, fun w2 ew2 => ?_, fun en => by (rw [ew] at en; cases en)⟩
      rw [ew] at ew2
      cases ew2
      have rest : p2_law_alike K E { nx := N, rt := fun v H3 => H3 d = some (.frz od (.dK kvs)) ∧ Q v (upd H3 d (.dK kvs)), bk := fun σ3 H3 => H3 d = some (.frz od (.dK kvs)) ∧ tRet (tC (.bl true)) { nx := fun _ H' => Q .non H', rt := Q } σ3 (upd H3 d (.dK kvs)), ct := N }
          [some (.ref b), some (.ref d), some (.ref p2), some (oV w.1), some (.int pr.1)] H7 := by
        unfold p2_law_alike
        walk_at "go"
        refine MD.rowC M7 eg rfl a0 ?_
        refine g_ne (scal_oV _ _) ?_
        rw [decide_eq_true rfl]
        walk_at "go"
        refine B7.meth ?_
        walk_at "go"
        refine ⟨b, fp, s, pr.1, rfl, B7, fun w2 ew2 => ?_, fun en => by (rw [ew] at en; cases en)⟩
        rw [ew] at ew2
        cases ew2
        walk_at "go"
        refine MD.rowC M7 eg rfl a1 ?_
        walk_at "go"
        refine dec_NT rfl ?_
        walk_at "go"
        unfold p1_law_alike
        walk_at "go"
        refine B7.meth ?_
        walk_at "go"
        refine ⟨b, fp, s, pr.1, rfl, B7, fun w2 ew2 => ?_, fun en => by (rw [ew] at en; cases en)⟩
        rw [ew] at ew2
        cases ew2
        walk_at "go"
        refine .inl ⟨_, rfl, ?_⟩
        walk_at "go"
        refine B7.meth ?_
        walk_at "go"
        refine ⟨b, fp, s, pr.1, rfl, B7, fun w2 ew2 => ?_, fun en => by (rw [ew] at en; cases en)⟩
        rw [ew] at ew2
        cases ew2
        walk_at "go"
        refine ⟨d, M, pr.1, rfl, M7, wfM, hlM, fun H8 s8 => ?_⟩
        have en : modN M pr.1 = w.2.2 := by rw [eM, modN_eq O wf hk, numR_some ew]
        rw [en]
        walk_at "go"
        refine dec_NT rfl ?_
        walk_at "go"
        exact hN _ _ (s7.trans s8) ⟨_, _, rfl⟩
      cases ow : w.1 with
      | none =>
        rw [ow] at a0 rest
        walk_at "go"
        refine MD.rowC M7 eg rfl a0 ?_
        walk_at "go"
        refine MD.rowC M7 eg rfl a0 ?_
        walk_at "go"
        exact rest
      | some y =>
        rw [ow] at a0 rest
        walk_at "go"
        refine MD.rowC M7 eg rfl a0 ?_
        walk_at "go"
        refine MD.rowC M7 eg rfl a0 ?_
        walk_at "go"
        refine .inl ⟨y, rfl, ?_⟩
        walk_at "go"
        exact rest
    · rintro od σ1 H7 s7 ⟨w3, w4, rfl⟩
      walk_at "go"
      exact q _ (s06.trans (lock_same hd6 s7))
end
end K12

/-! ## L12 -/
namespace K12
open PySem PySem.Spec PyProof.Rows L2 Cor
theorem deedB_step {s s' : Bk} {dd : Deed Str} {a : MA} (e : deedB s dd = .ok (a, s')) : Step (fun _ => True) s s' := by
  cases dd with
  | hang c p d => obtain ⟨⟨n, s2⟩, e1, e2⟩ := map_ok e; cases e2; exact .deed (.hang e1 trivial)
  | lay c p x => obtain ⟨⟨n, s2⟩, e1, e2⟩ := map_ok e; cases e2; exact .deed (.lay e1)
  | move c p x => obtain ⟨⟨n, s2⟩, e1, e2⟩ := map_ok e; cases e2; exact .deed (.move e1)
  | cut c p x => obtain ⟨⟨n, s2⟩, e1, e2⟩ := map_ok e; cases e2; exact .deed (.cut e1)
  | undo c p x => obtain ⟨⟨n, s2⟩, e1, e2⟩ := map_ok e; cases e2; exact .undo e1
theorem way_not {x : String} (h : Refused x) : Str.ofString (wayS x) ≠ "done" := by
  rcases h with rfl | rfl | rfl | rfl | rfl | rfl <;> decide
/-- all of the law between two deeds -/
structure St12 (K : PySem.W.Frag) (H H' : Hp) (b l d : Addr) (s m : Bk) (i : Nat) (fp : List Addr) (pvs : List V) (ds : List Addr) : Prop where
  bk : Book K H' b fp s
  sm : Same H H'
  fr : ∀ c ∈ fp, H c = none
  sti : StI (fun _ => True) s i
  rel : RelS s m
  ud : UD H' d m.R
  hl : H' l = some (.lst pvs)
  l0 : H l = none
  past : PastAt H' pvs ds m.past
  nd : d ∉ fp
  nl : l ∉ fp
  nds : ∀ a ∈ ds, a ∉ fp
section
variable {K : PySem.W.Frag} {vs : List V} {H H' H2 : Hp} {Q : VK} {E : XK} {b l d : Addr} {s m : Bk} {i : Nat} {fp : List Addr} {pvs : List V} {ds : List Addr}
theorem St12.same (S : St12 K H H' b l d s m i fp pvs ds) (e : Same H' H2) : St12 K H H2 b l d s m i fp pvs ds :=
  ⟨S.bk.same e, S.sm.trans e, S.fr, S.sti, S.rel, S.ud.same e, e _ _ S.hl, S.l0, S.past.mono (fun t xs => e _ _) fun a _ u => e _ _, S.nd, S.nl, S.nds⟩
theorem St12.more (S : St12 K H H' b l d s m i fp pvs ds) : St12 K H H' b l d s m (i + 1) fp pvs ds := ⟨S.bk, S.sm, S.fr, S.sti.more, S.rel, S.ud, S.hl, S.l0, S.past, S.nd, S.nl, S.nds⟩
theorem St12.keys (S : St12 K H H' b l d s m i fp pvs ds) : keysR m.R = keysR s.R := by
  obtain ⟨own, _, e, _⟩ := S.rel.now
  rw [e, omap_keys]
theorem St12.len (S : St12 K H H' b l d s m i fp pvs ds) : m.R.length ≤ i := by
  have h := congrArg List.length S.keys
  unfold keysR at h
  rw [List.length_map, List.length_map] at h
  have := S.sti.rows
  omega
theorem St12.wf (S : St12 K H H' b l d s m i fp pvs ds) : Wf m.R := by
  obtain ⟨own, _, e, _⟩ := S.rel.now
  rw [e]
  exact omap_wf S.sti.ok.now.wf
def sp_law (K : PySem.W.Frag) : Sp := fun vs H Q _ => ∃ (a : Addr) (ns : List Int), vs = [.ref a] ∧ SqL K H a (ns.map V.int) ∧ ns.length ≤ 63 ∧ ∀ H', Q (.bl true) H'
/-- law: slots script, book, rows, following, past, k, deed, due, found, good -/
def p0_law (K : PySem.W.Frag) (E : XK) : TS :=
  tAsg (tOp (rIxT K) (tVar 7) (tC (.int 2))) (gName 2)
def p1_law (K : PySem.W.Frag) (E : XK) : TS :=
  tSeq (tIfS (tTest (tOp rEq (tOp (rIxT K) (tVar 6) (tC (.int 0))) (tC (.str "undo")))) (tAsg (tOp (rIxT K) (tBM0 K "list" rPop (tVar 4)) (tC (.int 0))) (gName 3)) (tSeq (tDrop (tBM K "list" rAppend (tVar 4) (tCons (tTup (tCons (tVar 3) (tCons (tVar 2) tNil))) tNil))) (tAsg (tOp rAddI (tVar 3) (tCB rIntI (tCons (tOp rEq (tOp (rIxT K) (tVar 6) (tC (.int 0))) (tC (.str "hang"))) tNil))) (gName 3)))) (p0_law K E)
def p2_law (K : PySem.W.Frag) (E : XK) : TS :=
  tSeq (tIfS (tNot (tB (tVar 9))) (tRet (tC (.bl false))) tNext) (p1_law K E)
def p3_law (K : PySem.W.Frag) (E : XK) : TS :=
  tIfS (tNot (tB (tCall (sp_law_alike K) [] E0 (tCons (tVar 1) (tCons (tVar 2) tNil))))) (tRet (tC (.bl false))) tNext
def p4_law (K : PySem.W.Frag) (E : XK) : TS :=
  tSeq (tIfS (tTest (tOp rEq (tOp (rIxT K) (tVar 7) (tC (.int 0))) (tC (.str "done")))) (tSeq (tAsg (tAndV (tCall (sp_law_whole K) [] E0 (tCons (tOp (rIxT K) (tVar 8) (tC (.int 1))) tNil)) (tOp rEq (tOp (rIxT K) (tVar 8) (tC (.int 1))) (tOp (rIxT K) (tVar 7) (tC (.int 1))))) (gName 9)) (tSeq (tIfS (tTest (tOp rEq (tOp (rIxT K) (tVar 6) (tC (.int 0))) (tC (.str "cut")))) (tAsg (tCall (sp_law_same K) [] E0 (tCons (tOp (rIxT K) (tVar 8) (tC (.int 1))) (tCons (tOp (rIxT K) (tVar 7) (tC (.int 1))) tNil))) (gName 9)) tNext) (p2_law K E))) tNext) (p3_law K E)
def p5_law (K : PySem.W.Frag) (E : XK) : TS :=
  tSeq (tAsg (tCall (sp_law_drawn K) [] E0 (tCons (tVar 2) (tCons (tVar 3) (tCons (tOp (rIxL K) (tVar 0) (tOp rMulI (tC (.int 2)) (tVar 5))) (tCons (tOp (rIxL K) (tVar 0) (tOp rAddI (tOp rMulI (tC (.int 2)) (tVar 5)) (tC (.int 1)))) tNil))))) (gName 6)) (tSeq (tAsg (tCall (sp_law_due K) [] E0 (tCons (tVar 2) (tCons (tVar 3) (tCons (tVar 4) (tCons (tVar 6) tNil))))) (gName 7)) (tSeq (tAsg (tCall (sp_law_done K) [] E0 (tCons (tVar 1) (tCons (tVar 6) tNil))) (gName 8)) (tSeq (tIfS (tTest (tOp rNe (tOp (rIxT K) (tVar 8) (tC (.int 0))) (tOp (rIxT K) (tVar 7) (tC (.int 0))))) (tRet (tC (.bl false))) tNext) (p4_law K E))))
def t_law (K : PySem.W.Frag) (E : XK) : TS :=
  tSeq (tAsg (tMake (He.ga K "Book") (sp_Book___init__ K) [] E0 tNil) (gName 1)) (tSeq (tAsg tDNewK (gName 2)) (tSeq (tAsg (tC (.int 0)) (gName 3)) (tSeq (tAsg (tLst tNil) (gName 4)) (tSeq (tFor (iRng1 (tCons (tCB rMin2 (tCons (tOp rDivI (tCB (rLenL K) (tCons (tVar 0) tNil)) (tC (.int 2))) (tCons (tC (.int 14)) tNil))) tNil)) (gName 5) (p5_law K E)) (tRet (tC (.bl true)))))))
abbrev n_law : List Str := ["script", "book", "rows", "following", "past", "k", "deed", "due", "found", "good"]

theorem len_law (h : sp_law K vs H Q E) : vs.length = (["script"] : List Str).length := by
  obtain ⟨_, _, rfl, _⟩ := h
  rfl
theorem pure_law (K : PySem.W.Frag) (vs : List V) (H : Hp) (Q : VK) (E : XK) (h : sp_law K vs H Q E) : t_law K E { nx := fun _ H' => Q .non H', rt := Q } (start n_law vs) H := by
  obtain ⟨a, ns, rfl, hS, hl, q⟩ := h
  unfold t_law
  walk_at "go"
  refine g_newBook fun b H1 fp B1 s1 f1 => ?_
  walk_at "go"
  intro d hd
  walk_at "go"
  intro l hl2
  have s2 : Same H1 (upd H1 d (.dK [])) := same_new hd
  have s3 : Same (upd H1 d (.dK [])) (upd (upd H1 d (.dK [])) l (.lst [])) := same_new hl2
  have S0 : St12 K H (upd (upd H1 d (.dK [])) l (.lst [])) b l d ⟨[], 0, []⟩ ⟨[], 0, []⟩ 0 fp [] [] := by
    refine ⟨(B1.same s2).same s3, (s1.trans s2).trans s3, f1, StI.start _, RelS.start, ⟨[], s3 _ _ upd_same, .nil⟩, upd_same, s1.free (s2.free hl2), True.intro, B1.new hd, (B1.same s2).new hl2, fun a ha => (by cases ha)⟩
  obtain ⟨H0, e0⟩ : ∃ H0, H0 = upd (upd H1 d (.dK [])) l (.lst []) := ⟨_, rfl⟩
  rw [← e0] at S0
  rw [← e0]
  clear e0
  walk_at "go"
  refine g_forR1 ?_
  walk_at "go"
  refine g_lenL (S0.sm.seq hS) ?_
  walk_at "go"
  rw [List.length_map]
  refine ⟨_, _, rfl, ?_⟩
  obtain ⟨n, hn, hn1, hn2⟩ : ∃ n : Nat, (if (14 : Int) < (ns.length : Int) / 2 then 14 else (ns.length : Int) / 2) = (n : Int) ∧ n ≤ 14 ∧ 2 * n ≤ ns.length := by
    by_cases h : (14 : Int) < (ns.length : Int) / 2
    · rw [if_pos h]; exact ⟨14, rfl, Nat.le_refl _, by omega⟩
    · rw [if_neg h]; exact ⟨ns.length / 2, by omega, by omega, by omega⟩
  rw [hn]
  walk_at "go"
  refine rng1_of (by omega) (by omega) ?_
  rw [Int.toNat_natCast]
  refine forR_run n (fun i σ H' => ∃ s m d fp pvs ds w5 w6 w7 w8 w9, σ = [some (.ref a), some (.ref b), some (.ref d), some (.int m.fol), some (.ref l), w5, w6, w7, w8, w9] ∧ St12 K H H' b l d s m i fp pvs ds) ?_ ?_ ⟨_, _, _, _, _, _, _, _, _, _, _, rfl, S0⟩
  · rintro i σ H2 N hi ⟨s, m, d, fp, pvs, ds, w5, w6, w7, w8, w9, rfl, S⟩ hN
    have last : ∀ (H5 : Hp) (s m : Bk) (d : Addr) (fp : List Addr) (pvs : List V) (ds : List Addr) (w6 w7 w8 w9 : Option V), St12 K H H5 b l d s m (i + 1) fp pvs ds →
        p3_law K E { nx := N, rt := Q, bk := tRet (tC (.bl true)) { nx := fun _ H' => Q .non H', rt := Q }, ct := N } [some (.ref a), some (.ref b), some (.ref d), some (.int m.fol), some (.ref l), some (.int i), w6, w7, w8, w9] H5 := fun H5 s m d fp pvs ds w6 w7 w8 w9 S5 => by
      have := S5.sti.rows
      unfold p3_law
      walk_at "go"
      refine ⟨b, fp, s, d, m.R, rfl, S5.bk, S5.sti.ok, by omega, S5.rel.now, S5.ud, S5.nd, fun H6 s6 => ?_⟩
      walk_at "go"
      exact hN _ _ ⟨s, m, d, fp, pvs, ds, _, _, _, _, _, rfl, S5.same s6⟩
    have hrw := S.sti.rows
    have hpl := S.sti.len
    have hml := S.len
    walk_at "go"
    unfold p5_law
    walk_at "go"
    refine g_mul (.inl ⟨by decide, by decide⟩) ?_
    refine g_ixL (S.sm.seq hS) (atI_map (by omega) (by omega)) ?_
    walk_at "go"
    refine g_mul (.inl ⟨by decide, by decide⟩) ?_
    walk_at "go"
    refine g_ixL (S.sm.seq hS) (atI_map (by omega) (by omega)) ?_
    walk_at "go"
    refine ⟨d, m.R, m.fol, _, _, rfl, S.ud, S.wf.asc, by omega, by rw [← S.rel.fol]; exact S.sti.ok.f0, fun t H3 dd s3 t0 ht => ?_⟩
    have S3 := S.same s3
    walk_at "go"
    refine ⟨d, l, t, m, pvs, ds, dd, rfl, S3.ud, S3.hl, S3.past, ht, S.wf, by omega, fun q1 H4 s4 hdue => ?_⟩
    have S4 := S3.same s4
    have ht4 := s4 _ _ ht
    obtain ⟨mt1, mt2⟩ := deed_match S.sti.ok S.rel dd
    walk_at "go"
    refine ⟨b, fp, s, t, dd, rfl, S4.bk, S.sti.ok, ⟨by omega, by omega⟩, ht4, fun an s' e r v H5 fp5 B5 k5 g5 av hr => ?_, fun x r H5 e s5 hr => ?_⟩
    · obtain ⟨ok', M', em, rel'⟩ := mt2 an s' e
      rw [em] at hdue
      obtain ⟨d', v', hq, hq0, av', ud', hd'⟩ := hdue
      have tup : ∀ x xs, H4 x = some (.tup xs) → x ∉ fp := fun x xs h => S4.bk.tup h
      have hq5 := k5 _ _ hq (tup _ _ hq)
      have ht5 := k5 _ _ ht4 (tup _ _ ht4)
      have nd' : d' ∉ fp := by
        rcases hd' with (rfl | h) | h
        · exact S.nd
        · exact S.nds _ h
        · exact S3.bk.new h
      have out : ∀ x u, H4 x = some u → x ∉ fp → x ∉ fp5 := fun x u h1 h2 => g5.out h1 h2
      have ud5 : UD H5 d' M' := UD.keep ud' k5 nd' tup
      have udd5 : UD H5 d m.R := UD.keep S4.ud k5 S.nd tup
      have hl5 := k5 _ _ S4.hl S.nl
      have past5 : PastAt H5 pvs ds m.past := S4.past.mono (fun x xs h => k5 _ _ h (tup _ _ h)) fun x hx u h => k5 _ _ h (S.nds x hx)
      have ndl : l ∉ fp5 := out _ _ S4.hl S.nl
      have ndd5 : d ∉ fp5 := by
        obtain ⟨kv, h1, _⟩ := S4.ud
        exact out _ _ h1 S.nd
      have nd5 : d' ∉ fp5 := by
        obtain ⟨kv, h1, _⟩ := ud'
        exact out _ _ h1 nd'
      have nds5 : ∀ x ∈ ds, x ∉ fp5 := fun x hx => by
        obtain ⟨kk, hk⟩ := S4.past.dic x hx
        exact out _ _ hk (S.nds x hx)
      have sm5 : Same H H5 := fun x u hx => k5 _ _ (S4.sm _ _ hx) fun hf => by (rw [S.fr x hf] at hx; cases hx)
      have fr5 : ∀ c ∈ fp5, H c = none := fun c hc => (g5 c hc).elim (S.fr c) fun z => S4.sm.free z
      have sti5 : StI (fun _ => True) s' (i + 1) := (deedB_step e).all S.sti
      -- the state behind the list l is changed
      have set_l : ∀ (H6 : Hp) (pv : List V) (dz : List Addr) (ps : List (Int × Rows)), Same H5 H6 → PastAt H6 pv dz ps → (∀ x ∈ dz, x ∉ fp5) → RelS s' ⟨M', (nextM m M' dd).fol, ps⟩ → St12 K H (upd H6 l (.lst pv)) b l d' s' ⟨M', (nextM m M' dd).fol, ps⟩ (i + 1) fp5 pv dz := fun H6 pv dz ps s6 P6 hz r6 => by
        have kn : ∀ x u, H6 x = some u → (∀ ys, u ≠ .lst ys) → upd H6 l (.lst pv) x = some u := fun x u hx hu => by rw [upd_ne (ne_of hx (s6 _ _ hl5) (hu _))]; exact hx
        have kt : ∀ x xs, H6 x = some (.tup xs) → upd H6 l (.lst pv) x = some (.tup xs) := fun x xs hx => kn _ _ hx (by intro ys z; cases z)
        have B6 := B5.same s6
        refine ⟨?_, same_mut (sm5.trans s6) S.l0, fr5, sti5, r6, ?_, upd_same, S.l0, P6.mono kt fun x hx u hu => ?_, nd5, ndl, hz⟩
        · obtain ⟨dx, d1, l1, ds1, kv1, pvs1, rfl, h1, h2, h3, h4, h5, h6⟩ := B6
          have nb : ∀ x, x ∈ b :: d1 :: l1 :: ds1 → x ≠ l := fun x hx z => ndl (by rw [← z]; exact hx)
          exact ⟨dx, d1, l1, ds1, kv1, pvs1, rfl, by rw [upd_ne (nb b (by simp))]; exact h1, by rw [upd_ne (nb d1 (by simp))]; exact h2, h3.mono kt, by rw [upd_ne (nb l1 (by simp))]; exact h4, h5.mono kt fun x hx u hu => by rw [upd_ne (nb x (by simp [hx]))]; exact hu, h6⟩
        · obtain ⟨kv, h1, h2⟩ := ud5.same s6
          exact ⟨kv, kn _ _ h1 (by intro ys z; cases z), h2.mono kt⟩
        · obtain ⟨kk, hk⟩ := P6.dic x hx
          rw [hk] at hu
          cases hu
          exact kn _ _ hk (by intro ys z; cases z)
      -- rows = due[2]
      have fin : ∀ (H6 : Hp) (pv : List V) (dz : List Addr) (ps : List (Int × Rows)) (w9 : Option V), Same H5 H6 → PastAt H6 pv dz ps → (∀ x ∈ dz, x ∉ fp5) → RelS s' ⟨M', (nextM m M' dd).fol, ps⟩ →
          p0_law K E { nx := p3_law K E { nx := N, rt := Q, bk := tRet (tC (.bl true)) { nx := fun _ H' => Q .non H', rt := Q }, ct := N }, rt := Q, bk := tRet (tC (.bl true)) { nx := fun _ H' => Q .non H', rt := Q }, ct := N } [some (.ref a), some (.ref b), some (.ref d), some (.int (nextM m M' dd).fol), some (.ref l), some (.int i), some (.ref t), some (.ref q1), some (.ref r), w9] (upd H6 l (.lst pv)) := fun H6 pv dz ps w9 s6 P6 hz r6 => by
        have S6 := set_l H6 pv dz ps s6 P6 hz r6
        have hq6 : upd H6 l (.lst pv) q1 = some (.tup [.str (Str.ofString "done"), v', .ref d']) := by
          have := s6 _ _ hq5
          rw [upd_ne (ne_of this (s6 _ _ hl5) (by intro z; cases z))]
          exact this
        unfold p0_law
        walk_at "go"
        refine g_ixT (SqT.of hq6) (show atI [V.str (Str.ofString "done"), v', V.ref d'] 2 = some (.ref d') from rfl) ?_
        walk_at "go"
        exact last _ s' ⟨M', (nextM m M' dd).fol, ps⟩ d' fp5 pv dz _ _ _ _ S6
      -- past and following
      have pushed : ∀ w9 : Option V, kindS dd ≠ "undo" → (nextM m M' dd).past = m.past ++ [(m.fol, m.R)] → (nextM m M' dd).fol = m.fol + (if decide (kindS dd = "hang") = true then 1 else 0) →
          p1_law K E { nx := p3_law K E { nx := N, rt := Q, bk := tRet (tC (.bl true)) { nx := fun _ H' => Q .non H', rt := Q }, ct := N }, rt := Q, bk := tRet (tC (.bl true)) { nx := fun _ H' => Q .non H', rt := Q }, ct := N } [some (.ref a), some (.ref b), some (.ref d), some (.int m.fol), some (.ref l), some (.int i), some (.ref t), some (.ref q1), some (.ref r), w9] H5 := fun w9 hu hp hf => by
        have hk0 : atI (deedV dd) 0 = some (.str (kindS dd)) := by cases dd <;> rfl
        unfold p1_law
        walk_at "go"
        refine g_ixT (SqT.of ht5) hk0 ?_
        walk_at "go"
        refine dec_F hu ?_
        walk_at "go"
        refine ⟨ty_list (SqL.of hl5), ?_⟩
        walk_at "go"
        intro t9 ht9
        have s9 : Same H5 (upd H5 t9 (.tup [.int m.fol, .ref d])) := same_new ht9
        have := S4.past.len
        have hpm := S.rel.past.len
        walk_at "go"
        refine g_append (s9 _ _ hl5) (sz_lt (by omega)) ?_
        walk_at "go"
        have ht59 : upd (upd H5 t9 (.tup [.int m.fol, .ref d])) l (.lst (pvs ++ [.ref t9])) t = some (.tup (deedV dd)) := by
          rw [upd_ne (ne_of (s9 _ _ ht5) (s9 _ _ hl5) (by intro z; cases z))]
          exact s9 _ _ ht5
        refine g_ixT (SqT.of ht59) hk0 ?_
        walk_at "go"
        refine .inr ⟨_, rfl, ?_⟩
        walk_at "go"
        obtain ⟨kv, hd5, hr5⟩ := udd5
        have P9 := (past5.mono (fun x xs => s9 _ _) fun x _ u => s9 _ _).snoc (t := t9) (d := d) (p := (m.fol, m.R)) upd_same (s9 _ _ hd5) (hr5.mono fun x xs => s9 _ _)
        have r9 : RelS s' ⟨M', (nextM m M' dd).fol, m.past ++ [(m.fol, m.R)]⟩ := ⟨by have := rel'.now; cases dd <;> first | exact this | exact absurd rfl hu, rel'.fol, by rw [← hp]; exact rel'.past⟩
        have := fin _ _ _ _ w9 s9 P9 (fun x hx => (List.mem_append.mp hx).elim (nds5 x) fun z => by rw [List.mem_singleton.mp z]; exact ndd5) r9
        rw [hf] at this
        exact this
      -- what is found is what is due
      have good : ∀ w9 : V, w9 = .bl true → p1_law K E { nx := p3_law K E { nx := N, rt := Q, bk := tRet (tC (.bl true)) { nx := fun _ H' => Q .non H', rt := Q }, ct := N }, rt := Q, bk := tRet (tC (.bl true)) { nx := fun _ H' => Q .non H', rt := Q }, ct := N } [some (.ref a), some (.ref b), some (.ref d), some (.int m.fol), some (.ref l), some (.int i), some (.ref t), some (.ref q1), some (.ref r), some w9] H5 := fun w9 h9 => by
        cases dd with
        | hang c p x => exact pushed _ (show ("hang" : Str) ≠ "undo" by decide) rfl rfl
        | lay c p x => exact pushed _ (show ("lay" : Str) ≠ "undo" by decide) rfl (by show m.fol = m.fol + (if decide (("lay" : Str) = "hang") = true then 1 else 0); rw [if_neg (show ¬ decide (("lay" : Str) = "hang") = true by decide)]; exact (Int.add_zero _).symm)
        | move c p x => exact pushed _ (show ("move" : Str) ≠ "undo" by decide) rfl (by show m.fol = m.fol + (if decide (("move" : Str) = "hang") = true then 1 else 0); rw [if_neg (show ¬ decide (("move" : Str) = "hang") = true by decide)]; exact (Int.add_zero _).symm)
        | cut c p x => exact pushed _ (show ("cut" : Str) ≠ "undo" by decide) rfl (by show m.fol = m.fol + (if decide (("cut" : Str) = "hang") = true then 1 else 0); rw [if_neg (show ¬ decide (("cut" : Str) = "hang") = true by decide)]; exact (Int.add_zero _).symm)
        | undo c p x =>
          unfold p1_law
          walk_at "go"
          refine g_ixT (SqT.of ht5) (show atI (deedV (.undo c p x)) 0 = some (.str "undo") from rfl) ?_
          walk_at "go"
          refine dec_T rfl ?_
          walk_at "go"
          rcases List.eq_nil_or_concat m.past with e0 | ⟨ps, p1, ep⟩
          · have : dueM m (.undo c p x) = ("nothing", .non, m.R) := by
              unfold dueM
              rw [e0]
              rfl
            rw [this] at em
            exact absurd (show ("nothing" : String) = "done" from congrArg Prod.fst em) (by decide)
          · have ep : m.past = ps ++ [p1] := by rw [ep, List.concat_eq_append]
            have en : nextM m M' (.undo c p x) = ⟨M', p1.1, ps⟩ := by
              unfold nextM
              dsimp only
              rw [ep, List.getLast?_concat]
              dsimp only
              rw [List.dropLast_concat]
            have P5 := past5
            rw [ep] at P5
            obtain ⟨pvs0, ds0, t0, d2, kvs2, epv, eds, P0, ht0, hd2, hr2⟩ := P5.last
            refine ⟨ty_list (SqL.of hl5), ?_⟩
            refine g_pop (by rw [hl5, epv]) ?_
            walk_at "go"
            have ht0' : upd H5 l (.lst pvs0) t0 = some (.tup [.int p1.1, .ref d2]) := by
              rw [upd_ne (ne_of ht0 hl5 (by intro z; cases z))]
              exact ht0
            refine g_ixT (SqT.of ht0') (show atI [V.int p1.1, V.ref d2] 0 = some (.int p1.1) from rfl) ?_
            walk_at "go"
            have r0 : RelS s' ⟨M', (nextM m M' (.undo c p x)).fol, ps⟩ := by rw [en] at rel' ⊢; exact rel'
            have := fin H5 pvs0 ds0 ps (some w9) (Same.refl _) P0 (fun y hy => nds5 y (by rw [eds]; exact List.mem_append_left _ hy)) r0
            rw [en] at this
            exact this
      walk_at "go"
      refine g_ixT (SqT.of hr) (show atI [V.str "done", v] 0 = some (.str "done") from rfl) ?_
      walk_at "go"
      refine g_ixT (SqT.of hq5) (show atI [V.str (Str.ofString "done"), v', V.ref d'] 0 = some (.str "done") from rfl) ?_
      walk_at "go"
      refine dec_NT rfl ?_
      walk_at "go"
      unfold p4_law
      walk_at "go"
      refine g_ixT (SqT.of hq5) (show atI [V.str (Str.ofString "done"), v', V.ref d'] 0 = some (.str "done") from rfl) ?_
      walk_at "go"
      refine dec_T rfl ?_
      walk_at "go"
      refine g_ixT (SqT.of hr) (show atI [V.str "done", v] 1 = some v from rfl) ?_
      have fin2 : p2_law K E { nx := p3_law K E { nx := N, rt := Q, bk := tRet (tC (.bl true)) { nx := fun _ H' => Q .non H', rt := Q }, ct := N }, rt := Q, bk := tRet (tC (.bl true)) { nx := fun _ H' => Q .non H', rt := Q }, ct := N } [some (.ref a), some (.ref b), some (.ref d), some (.int m.fol), some (.ref l), some (.int i), some (.ref t), some (.ref q1), some (.ref r), some (.bl true)] H5 := by
        unfold p2_law
        walk_at "go"
        exact good _ rfl
      have hk0 : atI (deedV dd) 0 = some (.str (kindS dd)) := by cases dd <;> rfl
      cases an with
      | non =>
        exfalso
        cases dd <;> (obtain ⟨_, _, e2⟩ := map_ok e; cases e2)
      | num n5 =>
        cases (show v = .int n5 from av)
        cases (show v' = .int n5 from av')
        have hk : kindS dd ≠ "cut" := by
          cases dd with
          | cut c p x => obtain ⟨_, _, e2⟩ := map_ok e; cases e2
          | hang c p x => exact (show ("hang" : Str) ≠ "cut" by decide)
          | lay c p x => exact (show ("lay" : Str) ≠ "cut" by decide)
          | move c p x => exact (show ("move" : Str) ≠ "cut" by decide)
          | undo c p x => exact (show ("undo" : Str) ≠ "cut" by decide)
        walk_at "go"
        refine .inl ⟨_, rfl, ?_⟩
        walk_at "go"
        refine g_ixT (SqT.of hr) (show atI [V.str "done", V.int n5] 1 = some (.int n5) from rfl) ?_
        walk_at "go"
        refine g_ixT (SqT.of hq5) (show atI [V.str (Str.ofString "done"), V.int n5, V.ref d'] 1 = some (.int n5) from rfl) ?_
        walk_at "go"
        rw [decide_eq_true (rfl : n5 = n5)]
        refine g_ixT (SqT.of ht5) hk0 ?_
        walk_at "go"
        refine dec_F hk ?_
        walk_at "go"
        exact fin2
      | nms l5 =>
        obtain ⟨p6, rfl, p60, hp6⟩ := (show ∃ p, v = .ref p ∧ H4 p = none ∧ H5 p = some (.lst (l5.map V.int)) from av)
        obtain ⟨p7, rfl, p70, hp7⟩ := (show ∃ p, v' = .ref p ∧ H3 p = none ∧ H4 p = some (.lst (l5.map V.int)) from av')
        have hp75 := k5 _ _ hp7 (S3.bk.new p70)
        have hk : kindS dd = "cut" := by
          cases dd with
          | cut c p x => rfl
          | _ => obtain ⟨_, _, e2⟩ := map_ok e; cases e2
        have hl5' : l5.length ≤ 100000 := by
          cases dd with
          | cut c p x =>
            obtain ⟨⟨g0, s2⟩, e1, e2⟩ := map_ok e
            cases e2
            obtain ⟨_, el, _⟩ := cutB_ok S.sti.ok e1
            have h2 : (keysR s.R).length = s.R.length := by unfold keysR; rw [List.length_map]
            rw [el]
            exact Nat.le_trans (List.length_filter_le _ _) (by omega)
          | _ => obtain ⟨_, _, e2⟩ := map_ok e; cases e2
        walk_at "go"
        refine .inr ⟨p6, _, rfl, hp6, ?_⟩
        walk_at "go"
        refine g_ixT (SqT.of ht5) hk0 ?_
        rw [hk]
        walk_at "go"
        refine dec_T rfl ?_
        walk_at "go"
        refine g_ixT (SqT.of hr) (show atI [V.str "done", V.ref p6] 1 = some (.ref p6) from rfl) ?_
        walk_at "go"
        refine g_ixT (SqT.of hq5) (show atI [V.str (Str.ofString "done"), V.ref p7, V.ref d'] 1 = some (.ref p7) from rfl) ?_
        walk_at "go"
        refine ⟨p6, p7, l5, rfl, hp6, SqL.of hp75, hl5', ?_⟩
        walk_at "go"
        exact fin2
    · rw [mt1 x e] at hdue
      obtain ⟨d', v', hq, hq0, av', ud', hd'⟩ := hdue
      have hq5 := s5 _ _ hq
      have hx := way_not (deedB_err e)
      walk_at "go"
      refine g_ixT (SqT.of hr) (show atI [V.str (Str.ofString (wayS x)), V.non] 0 = some (.str (Str.ofString (wayS x))) from rfl) ?_
      walk_at "go"
      refine g_ixT (SqT.of hq5) (show atI [V.str (Str.ofString (wayS x)), v', V.ref d'] 0 = some (.str (Str.ofString (wayS x))) from rfl) ?_
      walk_at "go"
      refine dec_NT rfl ?_
      walk_at "go"
      unfold p4_law
      walk_at "go"
      refine g_ixT (SqT.of hq5) (show atI [V.str (Str.ofString (wayS x)), v', V.ref d'] 0 = some (.str (Str.ofString (wayS x))) from rfl) ?_
      walk_at "go"
      refine dec_F hx ?_
      walk_at "go"
      exact last _ _ _ _ _ _ _ _ _ _ _ (S4.same s5).more
  · rintro σ H2 ⟨s, m, d, fp, pvs, ds, w5, w6, w7, w8, w9, rfl, S⟩
    walk_at "go"
    exact q _
end
end K12

/-! ### law k12: the text by places, the facts, each def over its pure part (printed by gen_law.py) -/
namespace K12
open PySem PySem.Spec PyProof.Rows L2 Cor
def top (i : Nat) : Stmt := PySem.Challenge.pw_cordkeep_k12_whole_book.main.body.getD i (.Pass ⟨0, 0, 0, 0⟩)
abbrev s_Book___init__ : Stmt := inClass (top 11) 0
abbrev s_Book_cords : Stmt := inClass (top 11) 3
abbrev s_Book_asked : Stmt := inClass (top 11) 1
abbrev s_Book_dye : Stmt := inClass (top 11) 6
abbrev s_Book_hangers : Stmt := inClass (top 11) 7
abbrev s_Book_number : Stmt := inClass (top 11) 4
abbrev s_Book_over : Stmt := inClass (top 11) 5
abbrev s_law_line : Stmt := top 15
abbrev s_law_beneath : Stmt := top 16
abbrev s_law_number : Stmt := top 17
abbrev s_law_whole : Stmt := top 13
abbrev s_law_same : Stmt := top 14
abbrev s_law_alike : Stmt := top 27
abbrev s_Book_beneath : Stmt := inClass (top 11) 10
abbrev s_Book_grown : Stmt := inClass (top 11) 11
abbrev s_Book_kept : Stmt := inClass (top 11) 2
abbrev s_Book_line : Stmt := inClass (top 11) 9
abbrev s_Book_cut : Stmt := inClass (top 11) 15
abbrev s_Book_is_end : Stmt := inClass (top 11) 8
abbrev s_Book_hang : Stmt := inClass (top 11) 12
abbrev s_Book_lay : Stmt := inClass (top 11) 13
abbrev s_Book_move : Stmt := inClass (top 11) 14
abbrev s_Book_undo : Stmt := inClass (top 11) 16
abbrev s_law_answer : Stmt := top 24
abbrev s_law_done : Stmt := top 25
abbrev s_law_drawn : Stmt := top 26
abbrev s_law_cut : Stmt := top 22
abbrev s_law_is_end : Stmt := top 18
abbrev s_law_hung : Stmt := top 19
abbrev s_law_laid : Stmt := top 20
abbrev s_law_moved : Stmt := top 21
abbrev s_law_due : Stmt := top 23
abbrev s_law : Stmt := top 28
theorem sc_Book___init__ : FnScope ["self"] ["self"] (defScope s_Book___init__) := ⟨rfl, rfl, rfl, by decide +kernel, rfl, by decide +kernel, by decide +kernel⟩
theorem sc_Book_cords : FnScope ["self"] ["self"] (defScope s_Book_cords) := ⟨rfl, rfl, rfl, by decide +kernel, rfl, by decide +kernel, by decide +kernel⟩
theorem sc_Book_asked : FnScope ["self", "cord"] ["self", "cord"] (defScope s_Book_asked) := ⟨rfl, rfl, rfl, by decide +kernel, rfl, by decide +kernel, by decide +kernel⟩
theorem sc_Book_dye : FnScope ["self", "cord"] ["self", "cord"] (defScope s_Book_dye) := ⟨rfl, rfl, rfl, by decide +kernel, rfl, by decide +kernel, by decide +kernel⟩
theorem sc_Book_hangers : FnScope ["self", "cord", "name"] ["self", "cord"] (defScope s_Book_hangers) := ⟨rfl, rfl, rfl, by decide +kernel, rfl, by decide +kernel, by decide +kernel⟩
theorem sc_Book_number : FnScope ["self", "cord"] ["self", "cord"] (defScope s_Book_number) := ⟨rfl, rfl, rfl, by decide +kernel, rfl, by decide +kernel, by decide +kernel⟩
theorem sc_Book_over : FnScope ["self", "cord"] ["self", "cord"] (defScope s_Book_over) := ⟨rfl, rfl, rfl, by decide +kernel, rfl, by decide +kernel, by decide +kernel⟩
theorem sc_law_line : FnScope ["rows", "cord", "found"] ["rows", "cord"] (defScope s_law_line) := ⟨rfl, rfl, rfl, by decide +kernel, rfl, by decide +kernel, by decide +kernel⟩
theorem sc_law_beneath : FnScope ["rows", "cord", "name"] ["rows", "cord"] (defScope s_law_beneath) := ⟨rfl, rfl, rfl, by decide +kernel, rfl, by decide +kernel, by decide +kernel⟩
theorem sc_law_number : FnScope ["rows", "cord", "name"] ["rows", "cord"] (defScope s_law_number) := ⟨rfl, rfl, rfl, by decide +kernel, rfl, by decide +kernel, by decide +kernel⟩
theorem sc_law_whole : FnScope ["found"] ["found"] (defScope s_law_whole) := ⟨rfl, rfl, rfl, by decide +kernel, rfl, by decide +kernel, by decide +kernel⟩
theorem sc_law_same : FnScope ["found", "due", "k"] ["found", "due"] (defScope s_law_same) := ⟨rfl, rfl, rfl, by decide +kernel, rfl, by decide +kernel, by decide +kernel⟩
theorem sc_law_alike : FnScope ["book", "rows", "names", "over", "name"] ["book", "rows"] (defScope s_law_alike) := ⟨rfl, rfl, rfl, by decide +kernel, rfl, by decide +kernel, by decide +kernel⟩
theorem sc_Book_beneath : FnScope ["self", "cord", "found", "place"] ["self", "cord"] (defScope s_Book_beneath) := ⟨rfl, rfl, rfl, by decide +kernel, rfl, by decide +kernel, by decide +kernel⟩
theorem sc_Book_grown : FnScope ["self", "cords", "amount", "name", "row"] ["self", "cords", "amount"] (defScope s_Book_grown) := ⟨rfl, rfl, rfl, by decide +kernel, rfl, by decide +kernel, by decide +kernel⟩
theorem sc_Book_kept : FnScope ["self"] ["self"] (defScope s_Book_kept) := ⟨rfl, rfl, rfl, by decide +kernel, rfl, by decide +kernel, by decide +kernel⟩
theorem sc_Book_line : FnScope ["self", "cord", "found"] ["self", "cord"] (defScope s_Book_line) := ⟨rfl, rfl, rfl, by decide +kernel, rfl, by decide +kernel, by decide +kernel⟩
theorem sc_Book_cut : FnScope ["self", "cord", "row", "gone", "left", "name"] ["self", "cord"] (defScope s_Book_cut) := ⟨rfl, rfl, rfl, by decide +kernel, rfl, by decide +kernel, by decide +kernel⟩
theorem sc_Book_is_end : FnScope ["self", "cord"] ["self", "cord"] (defScope s_Book_is_end) := ⟨rfl, rfl, rfl, by decide +kernel, rfl, by decide +kernel, by decide +kernel⟩
theorem sc_Book_hang : FnScope ["self", "over", "dye", "row", "name"] ["self", "over", "dye"] (defScope s_Book_hang) := ⟨rfl, rfl, rfl, by decide +kernel, rfl, by decide +kernel, by decide +kernel⟩
theorem sc_Book_lay : FnScope ["self", "cord", "amount", "row", "line", "name"] ["self", "cord", "amount"] (defScope s_Book_lay) := ⟨rfl, rfl, rfl, by decide +kernel, rfl, by decide +kernel, by decide +kernel⟩
theorem sc_Book_move : FnScope ["self", "cord", "over", "row", "place", "losing", "gaining", "name"] ["self", "cord", "over"] (defScope s_Book_move) := ⟨rfl, rfl, rfl, by decide +kernel, rfl, by decide +kernel, by decide +kernel⟩
theorem sc_Book_undo : FnScope ["self", "before"] ["self"] (defScope s_Book_undo) := ⟨rfl, rfl, rfl, by decide +kernel, rfl, by decide +kernel, by decide +kernel⟩
theorem sc_law_answer : FnScope ["book", "deed"] ["book", "deed"] (defScope s_law_answer) := ⟨rfl, rfl, rfl, by decide +kernel, rfl, by decide +kernel, by decide +kernel⟩
theorem sc_law_done : FnScope ["book", "deed", "found", "way"] ["book", "deed"] (defScope s_law_done) := ⟨rfl, rfl, rfl, by decide +kernel, rfl, by decide +kernel, by decide +kernel⟩
theorem sc_law_drawn : FnScope ["rows", "following", "cell", "other", "names", "cord", "places", "place", "kind"] ["rows", "following", "cell", "other"] (defScope s_law_drawn) := ⟨rfl, rfl, rfl, by decide +kernel, rfl, by decide +kernel, by decide +kernel⟩
theorem sc_law_cut : FnScope ["rows", "cord", "gone", "made", "name"] ["rows", "cord"] (defScope s_law_cut) := ⟨rfl, rfl, rfl, by decide +kernel, rfl, by decide +kernel, by decide +kernel⟩
theorem sc_law_is_end : FnScope ["rows", "cord", "name"] ["rows", "cord"] (defScope s_law_is_end) := ⟨rfl, rfl, rfl, by decide +kernel, rfl, by decide +kernel, by decide +kernel⟩
theorem sc_law_hung : FnScope ["rows", "following", "place", "dye", "made"] ["rows", "following", "place", "dye"] (defScope s_law_hung) := ⟨rfl, rfl, rfl, by decide +kernel, rfl, by decide +kernel, by decide +kernel⟩
theorem sc_law_laid : FnScope ["rows", "cord", "amount", "made", "name"] ["rows", "cord", "amount"] (defScope s_law_laid) := ⟨rfl, rfl, rfl, by decide +kernel, rfl, by decide +kernel, by decide +kernel⟩
theorem sc_law_moved : FnScope ["rows", "cord", "place", "made", "name"] ["rows", "cord", "place"] (defScope s_law_moved) := ⟨rfl, rfl, rfl, by decide +kernel, rfl, by decide +kernel, by decide +kernel⟩
theorem sc_law_due : FnScope ["rows", "following", "past", "deed"] ["rows", "following", "past", "deed"] (defScope s_law_due) := ⟨rfl, rfl, rfl, by decide +kernel, rfl, by decide +kernel, by decide +kernel⟩
theorem sc_law : FnScope ["script", "book", "rows", "following", "past", "k", "deed", "due", "found", "good"] ["script"] (defScope s_law) := ⟨rfl, rfl, rfl, by decide +kernel, rfl, by decide +kernel, by decide +kernel⟩
structure Txt (K : PySem.W.Frag) (mg : Str → Option Value) : Prop where
  d_Book___init__ : DefAt K (("Book" : Str), some ("__init__" : Str)) "__init__" "Book.__init__" s_Book___init__ ["self"]
  d_Book_cords : DefAt K (("Book" : Str), some ("cords" : Str)) "cords" "Book.cords" s_Book_cords ["self"]
  m_Book_cords : Meth K (He.ga K "Book") "cords" (He.ma K (He.ga K "Book") "cords")
  d_Book_asked : DefAt K (("Book" : Str), some ("asked" : Str)) "asked" "Book.asked" s_Book_asked ["self", "cord"]
  m_Book_asked : Meth K (He.ga K "Book") "asked" (He.ma K (He.ga K "Book") "asked")
  d_Book_dye : DefAt K (("Book" : Str), some ("dye" : Str)) "dye" "Book.dye" s_Book_dye ["self", "cord"]
  m_Book_dye : Meth K (He.ga K "Book") "dye" (He.ma K (He.ga K "Book") "dye")
  d_Book_hangers : DefAt K (("Book" : Str), some ("hangers" : Str)) "hangers" "Book.hangers" s_Book_hangers ["self", "cord"]
  m_Book_hangers : Meth K (He.ga K "Book") "hangers" (He.ma K (He.ga K "Book") "hangers")
  d_Book_number : DefAt K (("Book" : Str), some ("number" : Str)) "number" "Book.number" s_Book_number ["self", "cord"]
  m_Book_number : Meth K (He.ga K "Book") "number" (He.ma K (He.ga K "Book") "number")
  d_Book_over : DefAt K (("Book" : Str), some ("over" : Str)) "over" "Book.over" s_Book_over ["self", "cord"]
  m_Book_over : Meth K (He.ga K "Book") "over" (He.ma K (He.ga K "Book") "over")
  d_law_line : DefAt K (("_law_line" : Str), (none : Option Str)) "_law_line" "_law_line" s_law_line ["rows", "cord"]
  g_law_line : mg "_law_line" = some (.ref (He.ga K "_law_line"))
  d_law_beneath : DefAt K (("_law_beneath" : Str), (none : Option Str)) "_law_beneath" "_law_beneath" s_law_beneath ["rows", "cord"]
  g_law_beneath : mg "_law_beneath" = some (.ref (He.ga K "_law_beneath"))
  d_law_number : DefAt K (("_law_number" : Str), (none : Option Str)) "_law_number" "_law_number" s_law_number ["rows", "cord"]
  g_law_number : mg "_law_number" = some (.ref (He.ga K "_law_number"))
  d_law_whole : DefAt K (("_law_whole" : Str), (none : Option Str)) "_law_whole" "_law_whole" s_law_whole ["found"]
  g_law_whole : mg "_law_whole" = some (.ref (He.ga K "_law_whole"))
  d_law_same : DefAt K (("_law_same" : Str), (none : Option Str)) "_law_same" "_law_same" s_law_same ["found", "due"]
  g_law_same : mg "_law_same" = some (.ref (He.ga K "_law_same"))
  d_law_alike : DefAt K (("_law_alike" : Str), (none : Option Str)) "_law_alike" "_law_alike" s_law_alike ["book", "rows"]
  g_law_alike : mg "_law_alike" = some (.ref (He.ga K "_law_alike"))
  d_Book_beneath : DefAt K (("Book" : Str), some ("beneath" : Str)) "beneath" "Book.beneath" s_Book_beneath ["self", "cord"]
  m_Book_beneath : Meth K (He.ga K "Book") "beneath" (He.ma K (He.ga K "Book") "beneath")
  d_Book_grown : DefAt K (("Book" : Str), some ("grown" : Str)) "grown" "Book.grown" s_Book_grown ["self", "cords", "amount"]
  m_Book_grown : Meth K (He.ga K "Book") "grown" (He.ma K (He.ga K "Book") "grown")
  d_Book_kept : DefAt K (("Book" : Str), some ("kept" : Str)) "kept" "Book.kept" s_Book_kept ["self"]
  m_Book_kept : Meth K (He.ga K "Book") "kept" (He.ma K (He.ga K "Book") "kept")
  d_Book_line : DefAt K (("Book" : Str), some ("line" : Str)) "line" "Book.line" s_Book_line ["self", "cord"]
  m_Book_line : Meth K (He.ga K "Book") "line" (He.ma K (He.ga K "Book") "line")
  d_Book_cut : DefAt K (("Book" : Str), some ("cut" : Str)) "cut" "Book.cut" s_Book_cut ["self", "cord"]
  m_Book_cut : Meth K (He.ga K "Book") "cut" (He.ma K (He.ga K "Book") "cut")
  d_Book_is_end : DefAt K (("Book" : Str), some ("is_end" : Str)) "is_end" "Book.is_end" s_Book_is_end ["self", "cord"]
  m_Book_is_end : Meth K (He.ga K "Book") "is_end" (He.ma K (He.ga K "Book") "is_end")
  d_Book_hang : DefAt K (("Book" : Str), some ("hang" : Str)) "hang" "Book.hang" s_Book_hang ["self", "over", "dye"]
  m_Book_hang : Meth K (He.ga K "Book") "hang" (He.ma K (He.ga K "Book") "hang")
  d_Book_lay : DefAt K (("Book" : Str), some ("lay" : Str)) "lay" "Book.lay" s_Book_lay ["self", "cord", "amount"]
  m_Book_lay : Meth K (He.ga K "Book") "lay" (He.ma K (He.ga K "Book") "lay")
  d_Book_move : DefAt K (("Book" : Str), some ("move" : Str)) "move" "Book.move" s_Book_move ["self", "cord", "over"]
  m_Book_move : Meth K (He.ga K "Book") "move" (He.ma K (He.ga K "Book") "move")
  d_Book_undo : DefAt K (("Book" : Str), some ("undo" : Str)) "undo" "Book.undo" s_Book_undo ["self"]
  m_Book_undo : Meth K (He.ga K "Book") "undo" (He.ma K (He.ga K "Book") "undo")
  d_law_answer : DefAt K (("_law_answer" : Str), (none : Option Str)) "_law_answer" "_law_answer" s_law_answer ["book", "deed"]
  g_law_answer : mg "_law_answer" = some (.ref (He.ga K "_law_answer"))
  d_law_done : DefAt K (("_law_done" : Str), (none : Option Str)) "_law_done" "_law_done" s_law_done ["book", "deed"]
  g_law_done : mg "_law_done" = some (.ref (He.ga K "_law_done"))
  d_law_drawn : DefAt K (("_law_drawn" : Str), (none : Option Str)) "_law_drawn" "_law_drawn" s_law_drawn ["rows", "following", "cell", "other"]
  g_law_drawn : mg "_law_drawn" = some (.ref (He.ga K "_law_drawn"))
  d_law_cut : DefAt K (("_law_cut" : Str), (none : Option Str)) "_law_cut" "_law_cut" s_law_cut ["rows", "cord"]
  g_law_cut : mg "_law_cut" = some (.ref (He.ga K "_law_cut"))
  d_law_is_end : DefAt K (("_law_is_end" : Str), (none : Option Str)) "_law_is_end" "_law_is_end" s_law_is_end ["rows", "cord"]
  g_law_is_end : mg "_law_is_end" = some (.ref (He.ga K "_law_is_end"))
  d_law_hung : DefAt K (("_law_hung" : Str), (none : Option Str)) "_law_hung" "_law_hung" s_law_hung ["rows", "following", "place", "dye"]
  g_law_hung : mg "_law_hung" = some (.ref (He.ga K "_law_hung"))
  d_law_laid : DefAt K (("_law_laid" : Str), (none : Option Str)) "_law_laid" "_law_laid" s_law_laid ["rows", "cord", "amount"]
  g_law_laid : mg "_law_laid" = some (.ref (He.ga K "_law_laid"))
  d_law_moved : DefAt K (("_law_moved" : Str), (none : Option Str)) "_law_moved" "_law_moved" s_law_moved ["rows", "cord", "place"]
  g_law_moved : mg "_law_moved" = some (.ref (He.ga K "_law_moved"))
  d_law_due : DefAt K (("_law_due" : Str), (none : Option Str)) "_law_due" "_law_due" s_law_due ["rows", "following", "past", "deed"]
  g_law_due : mg "_law_due" = some (.ref (He.ga K "_law_due"))
  d_law : DefAt K (("law" : Str), (none : Option Str)) "law" "law" s_law ["script"]
  g_law : mg "law" = some (.ref (He.ga K "law"))
  cl_Book : Cls K (He.ga K "Book")
  g_Book : mg "Book" = some (.ref (He.ga K "Book"))
  mk_Book : Mk K (He.ga K "Book") (He.ma K (He.ga K "Book") "__init__")
  na_rows : NoAttr K (He.ga K "Book") "rows"
  na_following : NoAttr K (He.ga K "Book") "following"
  na_past : NoAttr K (He.ga K "Book") "past"
  x_Knotted : ExcAt K mg "Knotted"
  x_NoCord : ExcAt K mg "NoCord"
  x_NotEnd : ExcAt K mg "NotEnd"
  x_Nothing : ExcAt K mg "Nothing"
  x_Ring : ExcAt K mg "Ring"
  x_TooMuch : ExcAt K mg "TooMuch"
  g_MOST : ∃ t, mg "MOST" = some (.int 999 t)
  n_bool : mg "bool" = none
  n_dict : mg "dict" = none
  n_int : mg "int" = none
  n_isinstance : mg "isinstance" = none
  n_len : mg "len" = none
  n_list : mg "list" = none
  n_min : mg "min" = none
  n_range : mg "range" = none
  n_sorted : mg "sorted" = none
  n_sum : mg "sum" = none
  alle : AllE K
section
variable {P : Program} {w : World} {K : PySem.W.Frag} {mg : Str → Option Value} {base : Heap}
theorem ok_Book___init__ (T : Txt K mg) : FnOk P w K mg base CX0 1 (He.ma K (He.ga K "Book") "__init__") (fdAt K (("Book" : Str), some ("__init__" : Str))) ["self"] (sp_Book___init__ K) := by
  refine (T.d_Book___init__.F.ok sc_Book___init__ (fun vs H Q E h => len_Book___init__ h) (fun cdv A outer s H vs Q E hr h => ⟨t_Book___init__ K E, PSs.nox ?_, pure_Book___init__ K (BookC.mk T.cl_Book T.na_rows T.na_following T.na_past) vs H Q E h⟩) : FnOk P w K mg base CX0 (0 + 1) _ _ _ _)
  have hu := hu_of hr
  exact (pss_cons (ps_fld (pv 0) pe_dnewK rfl)
    (pss_cons (ps_fld (pv 0) pe_int rfl)
    (pss_one (ps_fld (pv 0) (pe_lst pa_nil) rfl))))
theorem ok_Book_cords (T : Txt K mg) : FnOk P w K mg base CX0 1 (He.ma K (He.ga K "Book") "cords") (fdAt K (("Book" : Str), some ("cords" : Str))) ["self"] (sp_Book_cords K) := by
  refine (T.d_Book_cords.F.ok sc_Book_cords (fun vs H Q E h => len_Book_cords h) (fun cdv A outer s H vs Q E hr h => ⟨t_Book_cords K E, PSs.nox ?_, pure_Book_cords K (BookC.mk T.cl_Book T.na_rows T.na_following T.na_past) vs H Q E h⟩) : FnOk P w K mg base CX0 (0 + 1) _ _ _ _)
  have hu := hu_of hr
  exact (pss_one (ps_ret (pe_callB cr_sortedI (by rfl) T.n_sorted (by decide +kernel) (pa_cons (pe_callTy (call_list_dK rfl) (by rfl) T.n_list (by decide +kernel) (pa_cons (pe_fld (pv 0) rfl) pa_nil)) pa_nil))))
theorem ok_Book_asked (T : Txt K mg) : FnOk P w K mg base (L2.CX P w) 2 (He.ma K (He.ga K "Book") "asked") (fdAt K (("Book" : Str), some ("asked" : Str))) ["self", "cord"] (sp_Book_asked K) := by
  refine (T.d_Book_asked.F.ok sc_Book_asked (fun vs H Q E h => len_Book_asked h) (fun cdv A outer s H vs Q E hr h => ⟨t_Book_asked K E, ?_, pure_Book_asked K (BookC.mk T.cl_Book T.na_rows T.na_following T.na_past) vs H Q E h⟩) : FnOk P w K mg base (L2.CX P w) (1 + 1) _ _ _ _)
  have hu := hu_of hr
  exact (pss_cons (ps_if (pt_cmp (pc_dnotin hu (pv 1) (pe_fld (pv 0) rfl)) (by with_unfolding_all rfl)) (pss_one (ps_raise (W := fun cls d _ H => E cls d H) rfl (takes_of rfl rfl rfl rfl) (pmk_own PySem.F.excBase_ValueError T.x_NoCord.ex T.x_NoCord.g T.x_NoCord.kp (raises_own T.x_NoCord.sb T.x_NoCord.ty) (by exact rfl)))) pss_nil)
    (pss_one (ps_ret (pe_dget hu (pe_fld (pv 0) rfl) (pv 1) (fun _ _ => rfl)))))
theorem ok_Book_dye (T : Txt K mg) : FnOk P w K mg base (L2.CX P w) 4 (He.ma K (He.ga K "Book") "dye") (fdAt K (("Book" : Str), some ("dye" : Str))) ["self", "cord"] (sp_Book_dye K) := by
  refine (T.d_Book_dye.F.ok sc_Book_dye (fun vs H Q E h => len_Book_dye h) (fun cdv A outer s H vs Q E hr h => ⟨t_Book_dye K E, ?_, pure_Book_dye K vs H Q E h⟩) : FnOk P w K mg base (L2.CX P w) (3 + 1) _ _ _ _)
  have hu := hu_of hr
  exact (pss_one (ps_ret (pe_ix ix_tup (pe_meth (pv 0) T.cl_Book T.m_Book_asked (ok_Book_asked T) (hr.mono (by decide)) T.d_Book_asked.b .nil (passes_call (takes_of rfl rfl rfl rfl) (fun _ _ _ _ h => h)) (pa_cons (pv 1) pa_nil)) pe_int (fun _ _ => rfl))))
theorem ok_Book_hangers (T : Txt K mg) : FnOk P w K mg base (L2.CX P w) 4 (He.ma K (He.ga K "Book") "hangers") (fdAt K (("Book" : Str), some ("hangers" : Str))) ["self", "cord"] (sp_Book_hangers K) := by
  refine (T.d_Book_hangers.F.ok sc_Book_hangers (fun vs H Q E h => len_Book_hangers h) (fun cdv A outer s H vs Q E hr h => ⟨t_Book_hangers K E, ?_, pure_Book_hangers K (BookC.mk T.cl_Book T.na_rows T.na_following T.na_past) vs H Q E h⟩) : FnOk P w K mg base (L2.CX P w) (3 + 1) _ _ _ _)
  have hu := hu_of hr
  exact (pss_cons (ps_if (pt_cmpR op_notN (pv 1) pe_non (nomark _)) (pss_one (ps_expr (pe_meth (pv 0) T.cl_Book T.m_Book_asked (ok_Book_asked T) (hr.mono (by decide)) T.d_Book_asked.b .nil (passes_call (takes_of rfl rfl rfl rfl) (fun _ _ _ _ h => h)) (pa_cons (pv 1) pa_nil)))) pss_nil)
    (pss_one (ps_ret (pe_lc (own := [("name", 2)]) (by rfl) sc_Book_hangers.nd (pi_list (pe_meth0 (pv 0) T.cl_Book T.m_Book_cords (ok_Book_cords T) (hr.mono (by decide)) T.d_Book_cords.b .nil pass0)) (blkOk_by (own := [("name", 2)]) (N := ["self", "cord", "name"]) (sc := defScope s_Book_hangers) (by decide +kernel)) (fun _ _ _ _ _ => (pg_name (i := 2) sc_Book_hangers.nd rfl (by first | exact Or.inl rfl | exact Or.inr rfl))) (fun _ _ _ _ _ => (pts_one (pt_cmpR op_eq (pe_ix ix_tup (pe_dget hu (pe_fld (pv 0) rfl) (pv 2) (fun _ _ => rfl)) pe_int (fun _ _ => rfl)) (pv 1) (nomark _)))) (fun _ _ _ _ _ => (pv 2))))))
theorem ok_Book_number (T : Txt K mg) : FnOk P w K mg base (L2.CX P w) 4 (He.ma K (He.ga K "Book") "number") (fdAt K (("Book" : Str), some ("number" : Str))) ["self", "cord"] (sp_Book_number K) := by
  refine (T.d_Book_number.F.ok sc_Book_number (fun vs H Q E h => len_Book_number h) (fun cdv A outer s H vs Q E hr h => ⟨t_Book_number K E, ?_, pure_Book_number K vs H Q E h⟩) : FnOk P w K mg base (L2.CX P w) (3 + 1) _ _ _ _)
  have hu := hu_of hr
  exact (pss_one (ps_ret (pe_ix ix_tup (pe_meth (pv 0) T.cl_Book T.m_Book_asked (ok_Book_asked T) (hr.mono (by decide)) T.d_Book_asked.b .nil (passes_call (takes_of rfl rfl rfl rfl) (fun _ _ _ _ h => h)) (pa_cons (pv 1) pa_nil)) pe_int (fun _ _ => rfl))))
theorem ok_Book_over (T : Txt K mg) : FnOk P w K mg base (L2.CX P w) 4 (He.ma K (He.ga K "Book") "over") (fdAt K (("Book" : Str), some ("over" : Str))) ["self", "cord"] (sp_Book_over K) := by
  refine (T.d_Book_over.F.ok sc_Book_over (fun vs H Q E h => len_Book_over h) (fun cdv A outer s H vs Q E hr h => ⟨t_Book_over K E, ?_, pure_Book_over K vs H Q E h⟩) : FnOk P w K mg base (L2.CX P w) (3 + 1) _ _ _ _)
  have hu := hu_of hr
  exact (pss_one (ps_ret (pe_ix ix_tup (pe_meth (pv 0) T.cl_Book T.m_Book_asked (ok_Book_asked T) (hr.mono (by decide)) T.d_Book_asked.b .nil (passes_call (takes_of rfl rfl rfl rfl) (fun _ _ _ _ h => h)) (pa_cons (pv 1) pa_nil)) pe_int (fun _ _ => rfl))))
theorem ok_law_line (T : Txt K mg) : FnOk P w K mg base CX0 1 (He.ga K "_law_line") (fdAt K (("_law_line" : Str), (none : Option Str))) ["rows", "cord"] (sp_law_line K) := by
  refine (T.d_law_line.F.ok sc_law_line (fun vs H Q E h => len_law_line h) (fun cdv A outer s H vs Q E hr h => ⟨t_law_line K E, PSs.nox ?_, pure_law_line K vs H Q E h⟩) : FnOk P w K mg base CX0 (0 + 1) _ _ _ _)
  have hu := hu_of hr
  exact (pss_cons (ps_set (i := 2) sc_law_line.nd rfl (by first | exact Or.inl rfl | exact Or.inr rfl) (pe_lst pa_nil))
    (pss_cons (ps_while PassesOwn.never (pt_cmpR op_notN (pv 1) pe_non (nomark _)) (pss_cons (ps_expr (pe_bm PySem.F.plainAttrs_list PySem.F.slot_list_append PySem.F.type_list_append mt_append (pv 2) (pa_cons (pv 1) pa_nil)))
    (pss_one (ps_set (i := 1) sc_law_line.nd rfl (by first | exact Or.inl rfl | exact Or.inr rfl) (pe_ix ix_tup (pe_dget hu (pv 0) (pv 1) (fun _ _ => rfl)) pe_int (fun _ _ => rfl))))))
    (pss_one (ps_ret (pv 2)))))
theorem ok_law_beneath (T : Txt K mg) : FnOk P w K mg base CX0 2 (He.ga K "_law_beneath") (fdAt K (("_law_beneath" : Str), (none : Option Str))) ["rows", "cord"] (sp_law_beneath K) := by
  refine (T.d_law_beneath.F.ok sc_law_beneath (fun vs H Q E h => len_law_beneath h) (fun cdv A outer s H vs Q E hr h => ⟨t_law_beneath K E, PSs.nox ?_, pure_law_beneath K vs H Q E h⟩) : FnOk P w K mg base CX0 (1 + 1) _ _ _ _)
  have hu := hu_of hr
  exact (pss_one (ps_ret (pe_lc (own := [("name", 2)]) (by rfl) sc_law_beneath.nd (pi_list (pe_callB cr_sortedI (by rfl) T.n_sorted (by decide +kernel) (pa_cons (pe_callTy (call_list_dR rfl) (by rfl) T.n_list (by decide +kernel) (pa_cons (pv 0) pa_nil)) pa_nil))) (blkOk_by (own := [("name", 2)]) (N := ["rows", "cord", "name"]) (sc := defScope s_law_beneath) (by decide +kernel)) (fun _ _ _ _ _ => (pg_name (i := 2) sc_law_beneath.nd rfl (by first | exact Or.inl rfl | exact Or.inr rfl))) (fun _ _ _ _ _ => (pts_one (pt_cmpR op_in_seq (pv 1) (pe_call (ok_law_line T) (hr.mono (by decide)) rfl T.g_law_line T.d_law_line.F.kp T.d_law_line.b .nil pass0 (pa_cons (pv 0) (pa_cons (pv 2) pa_nil))) (by with_unfolding_all rfl)))) (fun _ _ _ _ _ => (pv 2)))))
theorem ok_law_number (T : Txt K mg) : FnOk P w K mg base CX0 3 (He.ga K "_law_number") (fdAt K (("_law_number" : Str), (none : Option Str))) ["rows", "cord"] (sp_law_number K) := by
  refine (T.d_law_number.F.ok sc_law_number (fun vs H Q E h => len_law_number h) (fun cdv A outer s H vs Q E hr h => ⟨t_law_number K E, PSs.nox ?_, pure_law_number K vs H Q E h⟩) : FnOk P w K mg base CX0 (2 + 1) _ _ _ _)
  have hu := hu_of hr
  exact (pss_one (ps_ret (pe_callB (cr_sum rfl) (by rfl) T.n_sum (by decide +kernel) (pa_cons (pe_lc (own := [("name", 2)]) (by rfl) sc_law_number.nd (pi_list (pe_call (ok_law_beneath T) (hr.mono (by decide)) rfl T.g_law_beneath T.d_law_beneath.F.kp T.d_law_beneath.b .nil pass0 (pa_cons (pv 0) (pa_cons (pv 1) pa_nil)))) (blkOk_by (own := [("name", 2)]) (N := ["rows", "cord", "name"]) (sc := defScope s_law_number) (by decide +kernel)) (fun _ _ _ _ _ => (pg_name (i := 2) sc_law_number.nd rfl (by first | exact Or.inl rfl | exact Or.inr rfl))) (fun _ _ _ _ _ => pts_nil) (fun _ _ _ _ _ => (pe_ix ix_tup (pe_dget hu (pv 0) (pv 2) (fun _ _ => rfl)) pe_int (fun _ _ => rfl)))) pa_nil))))
theorem ok_law_whole (T : Txt K mg) : FnOk P w K mg base CX0 1 (He.ga K "_law_whole") (fdAt K (("_law_whole" : Str), (none : Option Str))) ["found"] (sp_law_whole K) := by
  refine (T.d_law_whole.F.ok sc_law_whole (fun vs H Q E h => len_law_whole h) (fun cdv A outer s H vs Q E hr h => ⟨t_law_whole K E, PSs.nox ?_, pure_law_whole K vs H Q E h⟩) : FnOk P w K mg base CX0 (0 + 1) _ _ _ _)
  have hu := hu_of hr
  exact (pss_one (ps_ret (pe_and (pe_callB call_isi (by rfl) T.n_isinstance (by decide +kernel) (pa_cons (pv 0) (pa_cons (pe_bltn (by rfl) T.n_int (by decide +kernel) rfl) pa_nil))) (pe_one (pe_not (pe_callB call_isi (by rfl) T.n_isinstance (by decide +kernel) (pa_cons (pv 0) (pa_cons (pe_bltn (by rfl) T.n_bool (by decide +kernel) rfl) pa_nil))))))))
theorem ok_law_same (T : Txt K mg) : FnOk P w K mg base CX0 2 (He.ga K "_law_same") (fdAt K (("_law_same" : Str), (none : Option Str))) ["found", "due"] (sp_law_same K) := by
  refine (T.d_law_same.F.ok sc_law_same (fun vs H Q E h => len_law_same h) (fun cdv A outer s H vs Q E hr h => ⟨t_law_same K E, PSs.nox ?_, pure_law_same K vs H Q E h⟩) : FnOk P w K mg base CX0 (1 + 1) _ _ _ _)
  have hu := hu_of hr
  exact (pss_cons (ps_if (PW.pt (pw_or (pt_not (pt_val (pe_callB call_isi (by rfl) T.n_isinstance (by decide +kernel) (pa_cons (pv 0) (pa_cons (pe_bltn (by rfl) T.n_list (by decide +kernel) rfl) pa_nil))))) (pw_or1 (pt_cmpR op_ne (pe_callB call_len_seq (by rfl) T.n_len (by decide +kernel) (pa_cons (pv 0) pa_nil)) (pe_callB call_len_seq (by rfl) T.n_len (by decide +kernel) (pa_cons (pv 1) pa_nil)) (nomark _))))) (pss_one (ps_ret pe_bl)) pss_nil)
    (pss_cons (ps_for PassesOwn.never rfl (pi_range1 (by rfl) T.n_range (pa_cons (pe_callB call_len_seq (by rfl) T.n_len (by decide +kernel) (pa_cons (pv 1) pa_nil)) pa_nil)) (pg_name (i := 2) sc_law_same.nd rfl (by first | exact Or.inl rfl | exact Or.inr rfl)) (pss_one (ps_if (PW.pt (pw_or (pt_not (pt_val (pe_call (ok_law_whole T) (hr.mono (by decide)) rfl T.g_law_whole T.d_law_whole.F.kp T.d_law_whole.b .nil pass0 (pa_cons (pe_ix ix_list (pv 0) (pv 2) (fun _ _ => rfl)) pa_nil)))) (pw_or1 (pt_cmpR op_ne (pe_ix ix_list (pv 0) (pv 2) (fun _ _ => rfl)) (pe_ix ix_list (pv 1) (pv 2) (fun _ _ => rfl)) (nomark _))))) (pss_one (ps_ret pe_bl)) pss_nil)))
    (pss_one (ps_ret pe_bl))))
theorem ok_law_alike (T : Txt K mg) : FnOk P w K mg base CX0 5 (He.ga K "_law_alike") (fdAt K (("_law_alike" : Str), (none : Option Str))) ["book", "rows"] (sp_law_alike K) := by
  refine (T.d_law_alike.F.ok sc_law_alike (fun vs H Q E h => len_law_alike h) (fun cdv A outer s H vs Q E hr h => ⟨t_law_alike K E, PSs.nox ?_, pure_law_alike K vs H Q E h⟩) : FnOk P w K mg base CX0 (4 + 1) _ _ _ _)
  have hu := hu_of hr
  exact (pss_cons (ps_set (i := 2) sc_law_alike.nd rfl (by first | exact Or.inl rfl | exact Or.inr rfl) (pe_callB cr_sortedI (by rfl) T.n_sorted (by decide +kernel) (pa_cons (pe_callTy (call_list_dR rfl) (by rfl) T.n_list (by decide +kernel) (pa_cons (pv 1) pa_nil)) pa_nil)))
    (pss_cons (ps_if (pt_not (pt_val (pe_call (ok_law_same T) (hr.mono (by decide)) rfl T.g_law_same T.d_law_same.F.kp T.d_law_same.b .nil pass0 (pa_cons (pe_meth0 (pv 0) T.cl_Book T.m_Book_cords (ok_Book_cords T) (hr.mono (by decide)) T.d_Book_cords.b .nil pass0) (pa_cons (pv 2) pa_nil))))) (pss_one (ps_ret pe_bl)) pss_nil)
    (pss_cons (ps_for PassesOwn.never rfl (pi_list (pe_op op_cat (pe_lst (pa_cons pe_non pa_nil)) (pv 2))) (pg_name (i := 3) sc_law_alike.nd rfl (by first | exact Or.inl rfl | exact Or.inr rfl)) (pss_one (ps_if (pt_not (pt_val (pe_call (ok_law_same T) (hr.mono (by decide)) rfl T.g_law_same T.d_law_same.F.kp T.d_law_same.b .nil pass0 (pa_cons (pe_meth (pv 0) T.cl_Book T.m_Book_hangers (ok_Book_hangers T) (hr.mono (by decide)) T.d_Book_hangers.b .nil passL (pa_cons (pv 3) pa_nil)) (pa_cons (pe_lc (own := [("name", 4)]) (by rfl) sc_law_alike.nd (pi_list (pv 2)) (blkOk_by (own := [("name", 4)]) (N := ["book", "rows", "names", "over", "name"]) (sc := defScope s_law_alike) (by decide +kernel)) (fun _ _ _ _ _ => (pg_name (i := 4) sc_law_alike.nd rfl (by first | exact Or.inl rfl | exact Or.inr rfl))) (fun _ _ _ _ _ => (pts_one (pt_cmpR op_eq (pe_ix ix_tup (pe_dget hu (pv 1) (pv 4) (fun _ _ => rfl)) pe_int (fun _ _ => rfl)) (pv 3) (nomark _)))) (fun _ _ _ _ _ => (pv 4))) pa_nil))))) (pss_one (ps_ret pe_bl)) pss_nil)))
    (pss_cons (ps_lock (ps_for PassesOwn.never rfl (pi_keys (pv 1)) (pg_name (i := 4) sc_law_alike.nd rfl (by first | exact Or.inl rfl | exact Or.inr rfl)) (pss_cons (ps_set (i := 3) sc_law_alike.nd rfl (by first | exact Or.inl rfl | exact Or.inr rfl) (pe_meth (pv 0) T.cl_Book T.m_Book_over (ok_Book_over T) (hr.mono (by decide)) T.d_Book_over.b .nil passL (pa_cons (pv 4) pa_nil)))
    (pss_cons (ps_if (PW.pt (pw_or (PW.pt (pw_and (pt_cmpR op_isN (pe_ix ix_tup (pe_dget hu (pv 1) (pv 4) (fun _ _ => rfl)) pe_int (fun _ _ => rfl)) pe_non (nomark _)) (pw_and1 (pt_cmpR op_notN (pv 3) pe_non (nomark _))))) (pw_or1 (PW.pt (pw_and (pt_cmpR op_notN (pe_ix ix_tup (pe_dget hu (pv 1) (pv 4) (fun _ _ => rfl)) pe_int (fun _ _ => rfl)) pe_non (nomark _)) (pw_and1 (pt_not (pt_val (pe_call (ok_law_whole T) (hr.mono (by decide)) rfl T.g_law_whole T.d_law_whole.F.kp T.d_law_whole.b .nil pass0 (pa_cons (pv 3) pa_nil)))))))))) (pss_one (ps_ret pe_bl)) pss_nil)
    (pss_cons (ps_if (PW.pt (pw_or (pt_cmpR op_ne (pv 3) (pe_ix ix_tup (pe_dget hu (pv 1) (pv 4) (fun _ _ => rfl)) pe_int (fun _ _ => rfl)) (nomark _)) (pw_or1 (pt_cmpR op_ne (pe_meth (pv 0) T.cl_Book T.m_Book_dye (ok_Book_dye T) (hr.mono (by decide)) T.d_Book_dye.b .nil passL (pa_cons (pv 4) pa_nil)) (pe_ix ix_tup (pe_dget hu (pv 1) (pv 4) (fun _ _ => rfl)) pe_int (fun _ _ => rfl)) (nomark _))))) (pss_one (ps_ret pe_bl)) pss_nil)
    (pss_one (ps_if (PW.pt (pw_or (pt_not (pt_val (pe_call (ok_law_whole T) (hr.mono (by decide)) rfl T.g_law_whole T.d_law_whole.F.kp T.d_law_whole.b .nil pass0 (pa_cons (pe_meth (pv 0) T.cl_Book T.m_Book_number (ok_Book_number T) (hr.mono (by decide)) T.d_Book_number.b .nil passL (pa_cons (pv 4) pa_nil)) pa_nil)))) (pw_or1 (pt_cmpR op_ne (pe_meth (pv 0) T.cl_Book T.m_Book_number (ok_Book_number T) (hr.mono (by decide)) T.d_Book_number.b .nil passL (pa_cons (pv 4) pa_nil)) (pe_call (ok_law_number T) (hr.mono (by decide)) rfl T.g_law_number T.d_law_number.F.kp T.d_law_number.b .nil pass0 (pa_cons (pv 1) (pa_cons (pv 4) pa_nil))) (nomark _))))) (pss_one (ps_ret pe_bl)) pss_nil)))))))
    (pss_one (ps_ret pe_bl))))))
theorem ok_Book_beneath (T : Txt K mg) : FnOk P w K mg base CX0 5 (He.ma K (He.ga K "Book") "beneath") (fdAt K (("Book" : Str), some ("beneath" : Str))) ["self", "cord"] (sp_Book_beneath K) := by
  refine (T.d_Book_beneath.F.ok sc_Book_beneath (fun vs H Q E h => len_Book_beneath h) (fun cdv A outer s H vs Q E hr h => ⟨t_Book_beneath K E, PSs.nox ?_, pure_Book_beneath K vs H Q E h⟩) : FnOk P w K mg base CX0 (4 + 1) _ _ _ _)
  have hu := hu_of hr
  exact (pss_cons (ps_set (i := 2) sc_Book_beneath.nd rfl (by first | exact Or.inl rfl | exact Or.inr rfl) (pe_lst (pa_cons (pv 1) pa_nil)))
    (pss_cons (ps_set (i := 3) sc_Book_beneath.nd rfl (by first | exact Or.inl rfl | exact Or.inr rfl) pe_int)
    (pss_cons (ps_while PassesOwn.never (pt_cmpR op_lt (pv 3) (pe_callB call_len_seq (by rfl) T.n_len (by decide +kernel) (pa_cons (pv 2) pa_nil)) (nomark _)) (pss_cons (ps_expr (pe_bm PySem.F.plainAttrs_list PySem.F.slot_list_extend PySem.F.type_list_extend mt_extend (pv 2) (pa_cons (pe_meth (pv 0) T.cl_Book T.m_Book_hangers (ok_Book_hangers T) (hr.mono (by decide)) T.d_Book_hangers.b .nil passL (pa_cons (pe_ix ix_list (pv 2) (pv 3) (fun _ _ => rfl)) pa_nil)) pa_nil)))
    (pss_one (ps_set (i := 3) sc_Book_beneath.nd rfl (by first | exact Or.inl rfl | exact Or.inr rfl) (pe_op op_add (pv 3) pe_int)))))
    (pss_one (ps_ret (pv 2))))))
theorem ok_Book_grown (T : Txt K mg) : FnOk P w K mg base CX0 1 (He.ma K (He.ga K "Book") "grown") (fdAt K (("Book" : Str), some ("grown" : Str))) ["self", "cords", "amount"] (sp_Book_grown K) := by
  refine (T.d_Book_grown.F.ok sc_Book_grown (fun vs H Q E h => len_Book_grown h) (fun cdv A outer s H vs Q E hr h => ⟨t_Book_grown K E, PSs.nox ?_, pure_Book_grown K (BookC.mk T.cl_Book T.na_rows T.na_following T.na_past) vs H Q E h⟩) : FnOk P w K mg base CX0 (0 + 1) _ _ _ _)
  have hu := hu_of hr
  exact (pss_one (ps_for PassesOwn.never rfl (pi_list (pv 1)) (pg_name (i := 3) sc_Book_grown.nd rfl (by first | exact Or.inl rfl | exact Or.inr rfl)) (pss_cons (ps_set (i := 4) sc_Book_grown.nd rfl (by first | exact Or.inl rfl | exact Or.inr rfl) (pe_dget hu (pe_fld (pv 0) rfl) (pv 3) (fun _ _ => rfl)))
    (pss_one (ps_dput hu (pe_fld (pv 0) rfl) (pv 3) (pe_tup (pa_cons (pe_ix ix_tup (pv 4) pe_int (fun _ _ => rfl)) (pa_cons (pe_ix ix_tup (pv 4) pe_int (fun _ _ => rfl)) (pa_cons (pe_op op_add (pe_ix ix_tup (pv 4) pe_int (fun _ _ => rfl)) (pv 2)) pa_nil)))) rfl)))))
theorem ok_Book_kept (T : Txt K mg) : FnOk P w K mg base CX0 1 (He.ma K (He.ga K "Book") "kept") (fdAt K (("Book" : Str), some ("kept" : Str))) ["self"] (sp_Book_kept K) := by
  refine (T.d_Book_kept.F.ok sc_Book_kept (fun vs H Q E h => len_Book_kept h) (fun cdv A outer s H vs Q E hr h => ⟨t_Book_kept K E, PSs.nox ?_, pure_Book_kept K (BookC.mk T.cl_Book T.na_rows T.na_following T.na_past) vs H Q E h⟩) : FnOk P w K mg base CX0 (0 + 1) _ _ _ _)
  have hu := hu_of hr
  exact (pss_one (ps_expr (pe_bm PySem.F.plainAttrs_list PySem.F.slot_list_append PySem.F.type_list_append mt_append (pe_fld (pv 0) rfl) (pa_cons (pe_tup (pa_cons (pe_fld (pv 0) rfl) (pa_cons (pe_callTy call_dictD (by rfl) T.n_dict (by decide +kernel) (pa_cons (pe_fld (pv 0) rfl) pa_nil)) pa_nil))) pa_nil))))
theorem ok_Book_line (T : Txt K mg) : FnOk P w K mg base CX0 1 (He.ma K (He.ga K "Book") "line") (fdAt K (("Book" : Str), some ("line" : Str))) ["self", "cord"] (sp_Book_line K) := by
  refine (T.d_Book_line.F.ok sc_Book_line (fun vs H Q E h => len_Book_line h) (fun cdv A outer s H vs Q E hr h => ⟨t_Book_line K E, PSs.nox ?_, pure_Book_line K (BookC.mk T.cl_Book T.na_rows T.na_following T.na_past) vs H Q E h⟩) : FnOk P w K mg base CX0 (0 + 1) _ _ _ _)
  have hu := hu_of hr
  exact (pss_cons (ps_set (i := 2) sc_Book_line.nd rfl (by first | exact Or.inl rfl | exact Or.inr rfl) (pe_lst pa_nil))
    (pss_cons (ps_while PassesOwn.never (pt_cmpR op_notN (pv 1) pe_non (nomark _)) (pss_cons (ps_expr (pe_bm PySem.F.plainAttrs_list PySem.F.slot_list_append PySem.F.type_list_append mt_append (pv 2) (pa_cons (pv 1) pa_nil)))
    (pss_one (ps_set (i := 1) sc_Book_line.nd rfl (by first | exact Or.inl rfl | exact Or.inr rfl) (pe_ix ix_tup (pe_dget hu (pe_fld (pv 0) rfl) (pv 1) (fun _ _ => rfl)) pe_int (fun _ _ => rfl))))))
    (pss_one (ps_ret (pv 2)))))
theorem ok_Book_cut (T : Txt K mg) : FnOk P w K mg base (L2.CX P w) 7 (He.ma K (He.ga K "Book") "cut") (fdAt K (("Book" : Str), some ("cut" : Str))) ["self", "cord"] (sp_Book_cut K) := by
  refine (T.d_Book_cut.F.ok sc_Book_cut (fun vs H Q E h => len_Book_cut h) (fun cdv A outer s H vs Q E hr h => ⟨t_Book_cut K E, ?_, pure_Book_cut K (BookC.mk T.cl_Book T.na_rows T.na_following T.na_past) vs H Q E h⟩) : FnOk P w K mg base (L2.CX P w) (6 + 1) _ _ _ _)
  have hu := hu_of hr
  exact (pss_cons (ps_set (i := 2) sc_Book_cut.nd rfl (by first | exact Or.inl rfl | exact Or.inr rfl) (pe_meth (pv 0) T.cl_Book T.m_Book_asked (ok_Book_asked T) (hr.mono (by decide)) T.d_Book_asked.b .nil (passes_call (takes_of rfl rfl rfl rfl) (fun _ _ _ _ h => h)) (pa_cons (pv 1) pa_nil)))
    (pss_cons (ps_set (i := 3) sc_Book_cut.nd rfl (by first | exact Or.inl rfl | exact Or.inr rfl) (pe_callB cr_sortedI (by rfl) T.n_sorted (by decide +kernel) (pa_cons (pe_meth (pv 0) T.cl_Book T.m_Book_beneath (ok_Book_beneath T) (hr.mono (by decide)) T.d_Book_beneath.b .nil pass0 (pa_cons (pv 1) pa_nil)) pa_nil)))
    (pss_cons (ps_expr (pe_meth0 (pv 0) T.cl_Book T.m_Book_kept (ok_Book_kept T) (hr.mono (by decide)) T.d_Book_kept.b .nil pass0))
    (pss_cons (ps_expr (pe_meth (pv 0) T.cl_Book T.m_Book_grown (ok_Book_grown T) (hr.mono (by decide)) T.d_Book_grown.b .nil pass0 (pa_cons (pe_meth (pv 0) T.cl_Book T.m_Book_line (ok_Book_line T) (hr.mono (by decide)) T.d_Book_line.b .nil pass0 (pa_cons (pe_ix ix_tup (pv 2) pe_int (fun _ _ => rfl)) pa_nil)) (pa_cons (pe_un un_neg (pe_ix ix_tup (pv 2) pe_int (fun _ _ => rfl))) pa_nil))))
    (pss_cons (ps_set (i := 4) sc_Book_cut.nd rfl (by first | exact Or.inl rfl | exact Or.inr rfl) pe_dnewK)
    (pss_cons (ps_for (passes_of rfl) rfl (pi_list (pe_meth0 (pv 0) T.cl_Book T.m_Book_cords (ok_Book_cords T) (hr.mono (by decide)) T.d_Book_cords.b .nil pass0)) (pg_name (i := 5) sc_Book_cut.nd rfl (by first | exact Or.inl rfl | exact Or.inr rfl)) (pss_one (ps_if (pt_cmpR op_notIn_seq (pv 5) (pv 3) (by with_unfolding_all rfl)) (pss_one (ps_dput hu (pv 4) (pv 5) (pe_dget hu (pe_fld (pv 0) rfl) (pv 5) (fun _ _ => rfl)) rfl)) pss_nil)))
    (pss_cons (ps_fld (pv 0) (pv 4) rfl)
    (pss_one (ps_ret (pv 3))))))))))
theorem ok_Book_is_end (T : Txt K mg) : FnOk P w K mg base CX0 5 (He.ma K (He.ga K "Book") "is_end") (fdAt K (("Book" : Str), some ("is_end" : Str))) ["self", "cord"] (sp_Book_is_end K) := by
  refine (T.d_Book_is_end.F.ok sc_Book_is_end (fun vs H Q E h => len_Book_is_end h) (fun cdv A outer s H vs Q E hr h => ⟨t_Book_is_end K E, PSs.nox ?_, pure_Book_is_end K vs H Q E h⟩) : FnOk P w K mg base CX0 (4 + 1) _ _ _ _)
  have hu := hu_of hr
  exact (pss_one (ps_ret (pe_cmpR op_eq (pe_callB call_len_seq (by rfl) T.n_len (by decide +kernel) (pa_cons (pe_meth (pv 0) T.cl_Book T.m_Book_hangers (ok_Book_hangers T) (hr.mono (by decide)) T.d_Book_hangers.b .nil passL (pa_cons (pv 1) pa_nil)) pa_nil)) pe_int (nomark _))))
theorem ok_Book_hang (T : Txt K mg) : FnOk P w K mg base (L2.CX P w) 7 (He.ma K (He.ga K "Book") "hang") (fdAt K (("Book" : Str), some ("hang" : Str))) ["self", "over", "dye"] (sp_Book_hang K) := by
  refine (T.d_Book_hang.F.ok sc_Book_hang (fun vs H Q E h => len_Book_hang h) (fun cdv A outer s H vs Q E hr h => ⟨t_Book_hang K E, ?_, pure_Book_hang K (BookC.mk T.cl_Book T.na_rows T.na_following T.na_past) vs H Q E h⟩) : FnOk P w K mg base (L2.CX P w) (6 + 1) _ _ _ _)
  have hu := hu_of hr
  exact (pss_cons (ps_if (pt_cmpR op_notN (pv 1) pe_non (nomark _)) (pss_cons (ps_set (i := 3) sc_Book_hang.nd rfl (by first | exact Or.inl rfl | exact Or.inr rfl) (pe_meth (pv 0) T.cl_Book T.m_Book_asked (ok_Book_asked T) (hr.mono (by decide)) T.d_Book_asked.b .nil (passes_call (takes_of rfl rfl rfl rfl) (fun _ _ _ _ h => h)) (pa_cons (pv 1) pa_nil)))
    (pss_one (ps_if (PW.pt (pw_and (pt_val (pe_meth (pv 0) T.cl_Book T.m_Book_is_end (ok_Book_is_end T) (hr.mono (by decide)) T.d_Book_is_end.b .nil pass0 (pa_cons (pv 1) pa_nil))) (pw_and1 (pt_cmpR op_ne (pe_ix ix_tup (pv 3) pe_int (fun _ _ => rfl)) pe_int (nomark _))))) (pss_one (ps_raise (W := fun cls d _ H => E cls d H) rfl (takes_of rfl rfl rfl rfl) (pmk_own PySem.F.excBase_ValueError T.x_Knotted.ex T.x_Knotted.g T.x_Knotted.kp (raises_own T.x_Knotted.sb T.x_Knotted.ty) (by exact rfl)))) pss_nil))) pss_nil)
    (pss_cons (ps_expr (pe_meth0 (pv 0) T.cl_Book T.m_Book_kept (ok_Book_kept T) (hr.mono (by decide)) T.d_Book_kept.b .nil pass0))
    (pss_cons (ps_set (i := 4) sc_Book_hang.nd rfl (by first | exact Or.inl rfl | exact Or.inr rfl) (pe_fld (pv 0) rfl))
    (pss_cons (ps_dput hu (pe_fld (pv 0) rfl) (pv 4) (pe_tup (pa_cons (pv 1) (pa_cons (pv 2) (pa_cons pe_int pa_nil)))) rfl)
    (pss_cons (ps_fld (pv 0) (pe_op op_add (pv 4) pe_int) rfl)
    (pss_one (ps_ret (pv 4))))))))
theorem ok_Book_lay (T : Txt K mg) : FnOk P w K mg base (L2.CX P w) 7 (He.ma K (He.ga K "Book") "lay") (fdAt K (("Book" : Str), some ("lay" : Str))) ["self", "cord", "amount"] (sp_Book_lay K) := by
  refine (T.d_Book_lay.F.ok sc_Book_lay (fun vs H Q E h => len_Book_lay h) (fun cdv A outer s H vs Q E hr h => ⟨t_Book_lay K E, ?_, pure_Book_lay K (BookC.mk T.cl_Book T.na_rows T.na_following T.na_past) vs H Q E h⟩) : FnOk P w K mg base (L2.CX P w) (6 + 1) _ _ _ _)
  have hu := hu_of hr
  obtain ⟨t_MOST, g_MOST⟩ := T.g_MOST
  exact (pss_cons (ps_set (i := 3) sc_Book_lay.nd rfl (by first | exact Or.inl rfl | exact Or.inr rfl) (pe_meth (pv 0) T.cl_Book T.m_Book_asked (ok_Book_asked T) (hr.mono (by decide)) T.d_Book_asked.b .nil (passes_call (takes_of rfl rfl rfl rfl) (fun _ _ _ _ h => h)) (pa_cons (pv 1) pa_nil)))
    (pss_cons (ps_if (pt_not (pt_val (pe_meth (pv 0) T.cl_Book T.m_Book_is_end (ok_Book_is_end T) (hr.mono (by decide)) T.d_Book_is_end.b .nil pass0 (pa_cons (pv 1) pa_nil)))) (pss_one (ps_raise (W := fun cls d _ H => E cls d H) rfl (takes_of rfl rfl rfl rfl) (pmk_own PySem.F.excBase_ValueError T.x_NotEnd.ex T.x_NotEnd.g T.x_NotEnd.kp (raises_own T.x_NotEnd.sb T.x_NotEnd.ty) (by exact rfl)))) pss_nil)
    (pss_cons (ps_set (i := 4) sc_Book_lay.nd rfl (by first | exact Or.inl rfl | exact Or.inr rfl) (pe_meth (pv 0) T.cl_Book T.m_Book_line (ok_Book_line T) (hr.mono (by decide)) T.d_Book_line.b .nil pass0 (pa_cons (pv 1) pa_nil)))
    (pss_cons (ps_for (passes_of rfl) rfl (pi_list (pv 4)) (pg_name (i := 5) sc_Book_lay.nd rfl (by first | exact Or.inl rfl | exact Or.inr rfl)) (pss_one (ps_if (pt_not (pt_chain op_le op_le pe_int (pe_op op_add (pe_ix ix_tup (pe_dget hu (pe_fld (pv 0) rfl) (pv 5) (fun _ _ => rfl)) pe_int (fun _ _ => rfl)) (pv 2)) (pe_glob rfl g_MOST ⟨_, rfl⟩))) (pss_one (ps_raise (W := fun cls d _ H => E cls d H) rfl (takes_of rfl rfl rfl rfl) (pmk_own PySem.F.excBase_ValueError T.x_TooMuch.ex T.x_TooMuch.g T.x_TooMuch.kp (raises_own T.x_TooMuch.sb T.x_TooMuch.ty) (by exact rfl)))) pss_nil)))
    (pss_cons (ps_expr (pe_meth0 (pv 0) T.cl_Book T.m_Book_kept (ok_Book_kept T) (hr.mono (by decide)) T.d_Book_kept.b .nil pass0))
    (pss_cons (ps_expr (pe_meth (pv 0) T.cl_Book T.m_Book_grown (ok_Book_grown T) (hr.mono (by decide)) T.d_Book_grown.b .nil pass0 (pa_cons (pv 4) (pa_cons (pv 2) pa_nil))))
    (pss_one (ps_ret (pe_op op_add (pe_ix ix_tup (pv 3) pe_int (fun _ _ => rfl)) (pv 2))))))))))
theorem ok_Book_move (T : Txt K mg) : FnOk P w K mg base (L2.CX P w) 7 (He.ma K (He.ga K "Book") "move") (fdAt K (("Book" : Str), some ("move" : Str))) ["self", "cord", "over"] (sp_Book_move K) := by
  refine (T.d_Book_move.F.ok sc_Book_move (fun vs H Q E h => len_Book_move h) (fun cdv A outer s H vs Q E hr h => ⟨t_Book_move K E, ?_, pure_Book_move K (BookC.mk T.cl_Book T.na_rows T.na_following T.na_past) vs H Q E h⟩) : FnOk P w K mg base (L2.CX P w) (6 + 1) _ _ _ _)
  have hu := hu_of hr
  obtain ⟨t_MOST, g_MOST⟩ := T.g_MOST
  exact (pss_cons (ps_set (i := 3) sc_Book_move.nd rfl (by first | exact Or.inl rfl | exact Or.inr rfl) (pe_meth (pv 0) T.cl_Book T.m_Book_asked (ok_Book_asked T) (hr.mono (by decide)) T.d_Book_asked.b .nil (passes_call (takes_of rfl rfl rfl rfl) (fun _ _ _ _ h => h)) (pa_cons (pv 1) pa_nil)))
    (pss_cons (ps_if (pt_cmpR op_notN (pv 2) pe_non (nomark _)) (pss_cons (ps_set (i := 4) sc_Book_move.nd rfl (by first | exact Or.inl rfl | exact Or.inr rfl) (pe_meth (pv 0) T.cl_Book T.m_Book_asked (ok_Book_asked T) (hr.mono (by decide)) T.d_Book_asked.b .nil (passes_call (takes_of rfl rfl rfl rfl) (fun _ _ _ _ h => h)) (pa_cons (pv 2) pa_nil)))
    (pss_cons (ps_if (pt_cmpR op_in_seq (pv 2) (pe_meth (pv 0) T.cl_Book T.m_Book_beneath (ok_Book_beneath T) (hr.mono (by decide)) T.d_Book_beneath.b .nil pass0 (pa_cons (pv 1) pa_nil)) (by with_unfolding_all rfl)) (pss_one (ps_raise (W := fun cls d _ H => E cls d H) rfl (takes_of rfl rfl rfl rfl) (pmk_own PySem.F.excBase_ValueError T.x_Ring.ex T.x_Ring.g T.x_Ring.kp (raises_own T.x_Ring.sb T.x_Ring.ty) (by exact rfl)))) pss_nil)
    (pss_one (ps_if (PW.pt (pw_and (pt_val (pe_meth (pv 0) T.cl_Book T.m_Book_is_end (ok_Book_is_end T) (hr.mono (by decide)) T.d_Book_is_end.b .nil pass0 (pa_cons (pv 2) pa_nil))) (pw_and1 (pt_cmpR op_ne (pe_ix ix_tup (pv 4) pe_int (fun _ _ => rfl)) pe_int (nomark _))))) (pss_one (ps_raise (W := fun cls d _ H => E cls d H) rfl (takes_of rfl rfl rfl rfl) (pmk_own PySem.F.excBase_ValueError T.x_Knotted.ex T.x_Knotted.g T.x_Knotted.kp (raises_own T.x_Knotted.sb T.x_Knotted.ty) (by exact rfl)))) pss_nil)))) pss_nil)
    (pss_cons (ps_set (i := 5) sc_Book_move.nd rfl (by first | exact Or.inl rfl | exact Or.inr rfl) (pe_meth (pv 0) T.cl_Book T.m_Book_line (ok_Book_line T) (hr.mono (by decide)) T.d_Book_line.b .nil pass0 (pa_cons (pe_ix ix_tup (pv 3) pe_int (fun _ _ => rfl)) pa_nil)))
    (pss_cons (ps_set (i := 6) sc_Book_move.nd rfl (by first | exact Or.inl rfl | exact Or.inr rfl) (pe_meth (pv 0) T.cl_Book T.m_Book_line (ok_Book_line T) (hr.mono (by decide)) T.d_Book_line.b .nil pass0 (pa_cons (pv 2) pa_nil)))
    (pss_cons (ps_for (passes_of rfl) rfl (pi_list (pv 6)) (pg_name (i := 7) sc_Book_move.nd rfl (by first | exact Or.inl rfl | exact Or.inr rfl)) (pss_one (ps_if (PW.pt (pw_and (pt_cmpR op_notIn_seq (pv 7) (pv 5) (by with_unfolding_all rfl)) (pw_and1 (pt_cmpR op_gt (pe_op op_add (pe_ix ix_tup (pe_dget hu (pe_fld (pv 0) rfl) (pv 7) (fun _ _ => rfl)) pe_int (fun _ _ => rfl)) (pe_ix ix_tup (pv 3) pe_int (fun _ _ => rfl))) (pe_glob rfl g_MOST ⟨_, rfl⟩) (nomark _))))) (pss_one (ps_raise (W := fun cls d _ H => E cls d H) rfl (takes_of rfl rfl rfl rfl) (pmk_own PySem.F.excBase_ValueError T.x_TooMuch.ex T.x_TooMuch.g T.x_TooMuch.kp (raises_own T.x_TooMuch.sb T.x_TooMuch.ty) (by exact rfl)))) pss_nil)))
    (pss_cons (ps_expr (pe_meth0 (pv 0) T.cl_Book T.m_Book_kept (ok_Book_kept T) (hr.mono (by decide)) T.d_Book_kept.b .nil pass0))
    (pss_cons (ps_expr (pe_meth (pv 0) T.cl_Book T.m_Book_grown (ok_Book_grown T) (hr.mono (by decide)) T.d_Book_grown.b .nil pass0 (pa_cons (pv 5) (pa_cons (pe_un un_neg (pe_ix ix_tup (pv 3) pe_int (fun _ _ => rfl))) pa_nil))))
    (pss_cons (ps_expr (pe_meth (pv 0) T.cl_Book T.m_Book_grown (ok_Book_grown T) (hr.mono (by decide)) T.d_Book_grown.b .nil pass0 (pa_cons (pv 6) (pa_cons (pe_ix ix_tup (pv 3) pe_int (fun _ _ => rfl)) pa_nil))))
    (pss_cons (ps_dput hu (pe_fld (pv 0) rfl) (pv 1) (pe_tup (pa_cons (pv 2) (pa_cons (pe_ix ix_tup (pv 3) pe_int (fun _ _ => rfl)) (pa_cons (pe_ix ix_tup (pv 3) pe_int (fun _ _ => rfl)) pa_nil)))) rfl)
    (pss_one (ps_ret (pe_ix ix_tup (pv 3) pe_int (fun _ _ => rfl)))))))))))))
theorem ok_Book_undo (T : Txt K mg) : FnOk P w K mg base (L2.CX P w) 2 (He.ma K (He.ga K "Book") "undo") (fdAt K (("Book" : Str), some ("undo" : Str))) ["self"] (sp_Book_undo K) := by
  refine (T.d_Book_undo.F.ok sc_Book_undo (fun vs H Q E h => len_Book_undo h) (fun cdv A outer s H vs Q E hr h => ⟨t_Book_undo K E, ?_, pure_Book_undo K (BookC.mk T.cl_Book T.na_rows T.na_following T.na_past) vs H Q E h⟩) : FnOk P w K mg base (L2.CX P w) (1 + 1) _ _ _ _)
  have hu := hu_of hr
  exact (pss_cons (ps_if (pt_cmpR op_eq (pe_callB call_len_seq (by rfl) T.n_len (by decide +kernel) (pa_cons (pe_fld (pv 0) rfl) pa_nil)) pe_int (nomark _)) (pss_one (ps_raise (W := fun cls d _ H => E cls d H) rfl (takes_of rfl rfl rfl rfl) (pmk_own PySem.F.excBase_ValueError T.x_Nothing.ex T.x_Nothing.g T.x_Nothing.kp (raises_own T.x_Nothing.sb T.x_Nothing.ty) (by exact rfl)))) pss_nil)
    (pss_cons (ps_set (i := 1) sc_Book_undo.nd rfl (by first | exact Or.inl rfl | exact Or.inr rfl) (pe_bm0 PySem.F.plainAttrs_list PySem.F.slot_list_pop PySem.F.type_list_pop mt_pop (pe_fld (pv 0) rfl)))
    (pss_cons (ps_fld (pv 0) (pe_ix ix_tup (pv 1) pe_int (fun _ _ => rfl)) rfl)
    (pss_cons (ps_fld (pv 0) (pe_ix ix_tup (pv 1) pe_int (fun _ _ => rfl)) rfl)
    (pss_one (ps_ret (pe_callB call_len_seq (by rfl) T.n_len (by decide +kernel) (pa_cons (pe_fld (pv 0) rfl) pa_nil))))))))
theorem ok_law_answer (T : Txt K mg) : FnOk P w K mg base (L2.CX P w) 9 (He.ga K "_law_answer") (fdAt K (("_law_answer" : Str), (none : Option Str))) ["book", "deed"] (sp_law_answer K) := by
  refine (T.d_law_answer.F.ok sc_law_answer (fun vs H Q E h => len_law_answer h) (fun cdv A outer s H vs Q E hr h => ⟨t_law_answer K E, ?_, pure_law_answer K vs H Q E h⟩) : FnOk P w K mg base (L2.CX P w) (8 + 1) _ _ _ _)
  have hu := hu_of hr
  exact (pss_cons (ps_if (pt_cmpR op_eq (pe_ix ix_tup (pv 1) pe_int (fun _ _ => rfl)) pe_str (nomark _)) (pss_one (ps_ret (pe_meth (pv 0) T.cl_Book T.m_Book_hang (ok_Book_hang T) (hr.mono (by decide)) T.d_Book_hang.b .nil (passes_call (takes_of rfl rfl rfl rfl) (fun _ _ _ _ h => h)) (pa_cons (pe_ix ix_tup (pv 1) pe_int (fun _ _ => rfl)) (pa_cons (pe_ix ix_tup (pv 1) pe_int (fun _ _ => rfl)) pa_nil))))) pss_nil)
    (pss_cons (ps_if (pt_cmpR op_eq (pe_ix ix_tup (pv 1) pe_int (fun _ _ => rfl)) pe_str (nomark _)) (pss_one (ps_ret (pe_meth (pv 0) T.cl_Book T.m_Book_lay (ok_Book_lay T) (hr.mono (by decide)) T.d_Book_lay.b .nil (passes_call (takes_of rfl rfl rfl rfl) (fun _ _ _ _ h => h)) (pa_cons (pe_ix ix_tup (pv 1) pe_int (fun _ _ => rfl)) (pa_cons (pe_ix ix_tup (pv 1) pe_int (fun _ _ => rfl)) pa_nil))))) pss_nil)
    (pss_cons (ps_if (pt_cmpR op_eq (pe_ix ix_tup (pv 1) pe_int (fun _ _ => rfl)) pe_str (nomark _)) (pss_one (ps_ret (pe_meth (pv 0) T.cl_Book T.m_Book_move (ok_Book_move T) (hr.mono (by decide)) T.d_Book_move.b .nil (passes_call (takes_of rfl rfl rfl rfl) (fun _ _ _ _ h => h)) (pa_cons (pe_ix ix_tup (pv 1) pe_int (fun _ _ => rfl)) (pa_cons (pe_ix ix_tup (pv 1) pe_int (fun _ _ => rfl)) pa_nil))))) pss_nil)
    (pss_cons (ps_if (pt_cmpR op_eq (pe_ix ix_tup (pv 1) pe_int (fun _ _ => rfl)) pe_str (nomark _)) (pss_one (ps_ret (pe_meth (pv 0) T.cl_Book T.m_Book_cut (ok_Book_cut T) (hr.mono (by decide)) T.d_Book_cut.b .nil (passes_call (takes_of rfl rfl rfl rfl) (fun _ _ _ _ h => h)) (pa_cons (pe_ix ix_tup (pv 1) pe_int (fun _ _ => rfl)) pa_nil)))) pss_nil)
    (pss_one (ps_ret (pe_meth0 (pv 0) T.cl_Book T.m_Book_undo (ok_Book_undo T) (hr.mono (by decide)) T.d_Book_undo.b .nil (passes_call (takes_of rfl rfl rfl rfl) (fun _ _ _ _ h => h)))))))))
theorem ok_law_done (T : Txt K mg) : FnOk P w K mg base CX0 10 (He.ga K "_law_done") (fdAt K (("_law_done" : Str), (none : Option Str))) ["book", "deed"] (sp_law_done K) := by
  refine (T.d_law_done.F.ok sc_law_done (fun vs H Q E h => len_law_done h) (fun cdv A outer s H vs Q E hr h => ⟨t_law_done K E, PSs.nox ?_, pure_law_done K T.alle vs H Q E h⟩) : FnOk P w K mg base CX0 (9 + 1) _ _ _ _)
  have hu := hu_of hr
  exact (pss_cons (ps_set (i := 2) sc_law_done.nd rfl (by first | exact Or.inl rfl | exact Or.inr rfl) pe_non)
    (pss_cons (ps_set (i := 3) sc_law_done.nd rfl (by first | exact Or.inl rfl | exact Or.inr rfl) pe_str)
    (pss_cons (ps_try_many (Wout := fun _ _ _ _ => False) (l := [((Value.ref (He.ga K "NoCord")), fun a cls d => tAsg (tC (.str "no cord")) (gName 3)), ((Value.ref (He.ga K "Knotted")), fun a cls d => tAsg (tC (.str "knotted")) (gName 3)), ((Value.ref (He.ga K "NotEnd")), fun a cls d => tAsg (tC (.str "no end")) (gName 3)), ((Value.ref (He.ga K "Ring")), fun a cls d => tAsg (tC (.str "ring")) (gName 3)), ((Value.ref (He.ga K "TooMuch")), fun a cls d => tAsg (tC (.str "too much")) (gName 3)), ((Value.ref (He.ga K "Nothing")), fun a cls d => tAsg (tC (.str "nothing")) (gName 3))]) (tb := (fun W => tAsg (tCallS (sp_law_answer K) (WE W) (tCons (tVar 0) (tCons (tVar 1) tNil))) (gName 2))) rfl rfl takes0 (fun W pn xe tk hp => (pss_one (ps_set (i := 2) sc_law_done.nd rfl (by first | exact Or.inl rfl | exact Or.inr rfl) (pe_callS (ok_law_answer T) (hr.mono (by decide)) rfl T.g_law_answer T.d_law_answer.F.kp T.d_law_answer.b (fun σ => passAt tk σ) (pa_cons (pv 0) (pa_cons (pv 1) pa_nil)))))) (HdsOk.cons ⟨rfl, by decide, Or.inl T.x_NoCord.g⟩ (fun a oe cls d pn hz hf => (pss_one (ps_set (i := 3) sc_law_done.nd rfl (by first | exact Or.inl rfl | exact Or.inr rfl) pe_str))) (HdsOk.cons ⟨rfl, by decide, Or.inl T.x_Knotted.g⟩ (fun a oe cls d pn hz hf => (pss_one (ps_set (i := 3) sc_law_done.nd rfl (by first | exact Or.inl rfl | exact Or.inr rfl) pe_str))) (HdsOk.cons ⟨rfl, by decide, Or.inl T.x_NotEnd.g⟩ (fun a oe cls d pn hz hf => (pss_one (ps_set (i := 3) sc_law_done.nd rfl (by first | exact Or.inl rfl | exact Or.inr rfl) pe_str))) (HdsOk.cons ⟨rfl, by decide, Or.inl T.x_Ring.g⟩ (fun a oe cls d pn hz hf => (pss_one (ps_set (i := 3) sc_law_done.nd rfl (by first | exact Or.inl rfl | exact Or.inr rfl) pe_str))) (HdsOk.cons ⟨rfl, by decide, Or.inl T.x_TooMuch.g⟩ (fun a oe cls d pn hz hf => (pss_one (ps_set (i := 3) sc_law_done.nd rfl (by first | exact Or.inl rfl | exact Or.inr rfl) pe_str))) (HdsOk.cons ⟨rfl, by decide, Or.inl T.x_Nothing.g⟩ (fun a oe cls d pn hz hf => (pss_one (ps_set (i := 3) sc_law_done.nd rfl (by first | exact Or.inl rfl | exact Or.inr rfl) pe_str))) HdsOk.nil)))))))
    (pss_one (ps_ret (pe_tup (pa_cons (pv 3) (pa_cons (pv 2) pa_nil))))))))
theorem ok_law_drawn (T : Txt K mg) : FnOk P w K mg base CX0 1 (He.ga K "_law_drawn") (fdAt K (("_law_drawn" : Str), (none : Option Str))) ["rows", "following", "cell", "other"] (sp_law_drawn K) := by
  refine (T.d_law_drawn.F.ok sc_law_drawn (fun vs H Q E h => len_law_drawn h) (fun cdv A outer s H vs Q E hr h => ⟨t_law_drawn K E, PSs.nox ?_, pure_law_drawn K vs H Q E h⟩) : FnOk P w K mg base CX0 (0 + 1) _ _ _ _)
  have hu := hu_of hr
  exact (pss_cons (ps_set (i := 4) sc_law_drawn.nd rfl (by first | exact Or.inl rfl | exact Or.inr rfl) (pe_op op_cat (pe_callB cr_sortedI (by rfl) T.n_sorted (by decide +kernel) (pa_cons (pe_callTy (call_list_dR rfl) (by rfl) T.n_list (by decide +kernel) (pa_cons (pv 0) pa_nil)) pa_nil)) (pe_lst (pa_cons (pe_op op_mod (pe_op op_fdiv (pv 3) pe_int) (pe_op op_add (pv 1) pe_int)) (pa_cons pe_int pa_nil)))))
    (pss_cons (ps_set (i := 5) sc_law_drawn.nd rfl (by first | exact Or.inl rfl | exact Or.inr rfl) (pe_ix ix_list (pv 4) (pe_op op_mod (pe_op op_fdiv (pv 2) pe_int) (pe_callB call_len_seq (by rfl) T.n_len (by decide +kernel) (pa_cons (pv 4) pa_nil))) (fun _ _ => rfl)))
    (pss_cons (ps_set (i := 6) sc_law_drawn.nd rfl (by first | exact Or.inl rfl | exact Or.inr rfl) (pe_op op_cat (pe_lst (pa_cons pe_non pa_nil)) (pv 4)))
    (pss_cons (ps_set (i := 7) sc_law_drawn.nd rfl (by first | exact Or.inl rfl | exact Or.inr rfl) (pe_ix ix_list (pv 6) (pe_op op_mod (pe_op op_add (pe_op op_fdiv (pv 2) pe_int) (pv 3)) (pe_callB call_len_seq (by rfl) T.n_len (by decide +kernel) (pa_cons (pv 6) pa_nil))) (fun _ _ => rfl)))
    (pss_cons (ps_set (i := 8) sc_law_drawn.nd rfl (by first | exact Or.inl rfl | exact Or.inr rfl) (pe_ix ix_list (pe_lst (pa_cons pe_str (pa_cons pe_str (pa_cons pe_str (pa_cons pe_str (pa_cons pe_str (pa_cons pe_str (pa_cons pe_str (pa_cons pe_str (pa_cons pe_str (pa_cons pe_str (pa_cons pe_str (pa_cons pe_str pa_nil))))))))))))) (pe_op op_mod (pv 2) pe_int) (fun _ _ => rfl)))
    (pss_cons (ps_if (pt_cmpR op_eq (pv 8) pe_str (nomark _)) (pss_one (ps_ret (pe_tup (pa_cons (pv 8) (pa_cons (pv 5) (pa_cons (pv 7) (pa_cons (pe_ix ix_str pe_str (pe_op op_mod (pv 3) pe_int) (fun _ _ => rfl)) pa_nil))))))) pss_nil)
    (pss_one (ps_ret (pe_tup (pa_cons (pv 8) (pa_cons (pv 5) (pa_cons (pv 7) (pa_cons (pe_op op_sub (pe_op op_mod (pv 3) pe_int) pe_int) pa_nil)))))))))))))
theorem ok_law_cut (T : Txt K mg) : FnOk P w K mg base CX0 3 (He.ga K "_law_cut") (fdAt K (("_law_cut" : Str), (none : Option Str))) ["rows", "cord"] (sp_law_cut K) := by
  refine (T.d_law_cut.F.ok sc_law_cut (fun vs H Q E h => len_law_cut h) (fun cdv A outer s H vs Q E hr h => ⟨t_law_cut K E, PSs.nox ?_, pure_law_cut K vs H Q E h⟩) : FnOk P w K mg base CX0 (2 + 1) _ _ _ _)
  have hu := hu_of hr
  exact (pss_cons (ps_if (pt_cmp (pc_dnotin hu (pv 1) (pv 0)) (by with_unfolding_all rfl)) (pss_one (ps_ret (pe_tup (pa_cons pe_str (pa_cons pe_non (pa_cons (pv 0) pa_nil)))))) pss_nil)
    (pss_cons (ps_set (i := 2) sc_law_cut.nd rfl (by first | exact Or.inl rfl | exact Or.inr rfl) (pe_call (ok_law_beneath T) (hr.mono (by decide)) rfl T.g_law_beneath T.d_law_beneath.F.kp T.d_law_beneath.b .nil pass0 (pa_cons (pv 0) (pa_cons (pv 1) pa_nil))))
    (pss_cons (ps_set (i := 3) sc_law_cut.nd rfl (by first | exact Or.inl rfl | exact Or.inr rfl) pe_dnewK)
    (pss_cons (ps_lock (ps_for PassesOwn.never rfl (pi_keys (pv 0)) (pg_name (i := 4) sc_law_cut.nd rfl (by first | exact Or.inl rfl | exact Or.inr rfl)) (pss_one (ps_if (pt_cmpR op_notIn_seq (pv 4) (pv 2) (by with_unfolding_all rfl)) (pss_one (ps_dput hu (pv 3) (pv 4) (pe_dget hu (pv 0) (pv 4) (fun _ _ => rfl)) rfl)) pss_nil))))
    (pss_one (ps_ret (pe_tup (pa_cons pe_str (pa_cons (pv 2) (pa_cons (pv 3) pa_nil))))))))))
theorem ok_law_is_end (T : Txt K mg) : FnOk P w K mg base CX0 1 (He.ga K "_law_is_end") (fdAt K (("_law_is_end" : Str), (none : Option Str))) ["rows", "cord"] (sp_law_is_end K) := by
  refine (T.d_law_is_end.F.ok sc_law_is_end (fun vs H Q E h => len_law_is_end h) (fun cdv A outer s H vs Q E hr h => ⟨t_law_is_end K E, PSs.nox ?_, pure_law_is_end K vs H Q E h⟩) : FnOk P w K mg base CX0 (0 + 1) _ _ _ _)
  have hu := hu_of hr
  exact (pss_one (ps_ret (pe_cmpR op_notIn_seq (pv 1) (pe_lock (pe_lc (own := [("name", 2)]) (by rfl) sc_law_is_end.nd (pi_keys (pv 0)) (blkOk_by (own := [("name", 2)]) (N := ["rows", "cord", "name"]) (sc := defScope s_law_is_end) (by decide +kernel)) (fun _ _ _ _ _ => (pg_name (i := 2) sc_law_is_end.nd rfl (by first | exact Or.inl rfl | exact Or.inr rfl))) (fun _ _ _ _ _ => pts_nil) (fun _ _ _ _ _ => (pe_ix ix_tup (pe_dget hu (pv 0) (pv 2) (fun _ _ => rfl)) pe_int (fun _ _ => rfl))))) (by with_unfolding_all rfl))))
theorem ok_law_hung (T : Txt K mg) : FnOk P w K mg base CX0 2 (He.ga K "_law_hung") (fdAt K (("_law_hung" : Str), (none : Option Str))) ["rows", "following", "place", "dye"] (sp_law_hung K) := by
  refine (T.d_law_hung.F.ok sc_law_hung (fun vs H Q E h => len_law_hung h) (fun cdv A outer s H vs Q E hr h => ⟨t_law_hung K E, PSs.nox ?_, pure_law_hung K vs H Q E h⟩) : FnOk P w K mg base CX0 (1 + 1) _ _ _ _)
  have hu := hu_of hr
  exact (pss_cons (ps_if (PW.pt (pw_and (pt_cmpR op_notN (pv 2) pe_non (nomark _)) (pw_and1 (pt_cmp (pc_dnotin hu (pv 2) (pv 0)) (by with_unfolding_all rfl))))) (pss_one (ps_ret (pe_tup (pa_cons pe_str (pa_cons pe_non (pa_cons (pv 0) pa_nil)))))) pss_nil)
    (pss_cons (ps_if (PW.pt (pw_and (pt_cmpR op_notN (pv 2) pe_non (nomark _)) (pw_and (pt_val (pe_call (ok_law_is_end T) (hr.mono (by decide)) rfl T.g_law_is_end T.d_law_is_end.F.kp T.d_law_is_end.b .nil pass0 (pa_cons (pv 0) (pa_cons (pv 2) pa_nil)))) (pw_and1 (pt_cmpR op_ne (pe_ix ix_tup (pe_dget hu (pv 0) (pv 2) (fun _ _ => rfl)) pe_int (fun _ _ => rfl)) pe_int (nomark _)))))) (pss_one (ps_ret (pe_tup (pa_cons pe_str (pa_cons pe_non (pa_cons (pv 0) pa_nil)))))) pss_nil)
    (pss_cons (ps_set (i := 4) sc_law_hung.nd rfl (by first | exact Or.inl rfl | exact Or.inr rfl) (pe_callTy call_dictD (by rfl) T.n_dict (by decide +kernel) (pa_cons (pv 0) pa_nil)))
    (pss_cons (ps_dput hu (pv 4) (pv 1) (pe_tup (pa_cons (pv 2) (pa_cons (pv 3) (pa_cons pe_int pa_nil)))) rfl)
    (pss_one (ps_ret (pe_tup (pa_cons pe_str (pa_cons (pv 1) (pa_cons (pv 4) pa_nil))))))))))
theorem ok_law_laid (T : Txt K mg) : FnOk P w K mg base CX0 4 (He.ga K "_law_laid") (fdAt K (("_law_laid" : Str), (none : Option Str))) ["rows", "cord", "amount"] (sp_law_laid K) := by
  refine (T.d_law_laid.F.ok sc_law_laid (fun vs H Q E h => len_law_laid h) (fun cdv A outer s H vs Q E hr h => ⟨t_law_laid K E, PSs.nox ?_, pure_law_laid K vs H Q E h⟩) : FnOk P w K mg base CX0 (3 + 1) _ _ _ _)
  have hu := hu_of hr
  exact (pss_cons (ps_if (pt_cmp (pc_dnotin hu (pv 1) (pv 0)) (by with_unfolding_all rfl)) (pss_one (ps_ret (pe_tup (pa_cons pe_str (pa_cons pe_non (pa_cons (pv 0) pa_nil)))))) pss_nil)
    (pss_cons (ps_if (pt_not (pt_val (pe_call (ok_law_is_end T) (hr.mono (by decide)) rfl T.g_law_is_end T.d_law_is_end.F.kp T.d_law_is_end.b .nil pass0 (pa_cons (pv 0) (pa_cons (pv 1) pa_nil))))) (pss_one (ps_ret (pe_tup (pa_cons pe_str (pa_cons pe_non (pa_cons (pv 0) pa_nil)))))) pss_nil)
    (pss_cons (ps_set (i := 3) sc_law_laid.nd rfl (by first | exact Or.inl rfl | exact Or.inr rfl) (pe_callTy call_dictD (by rfl) T.n_dict (by decide +kernel) (pa_cons (pv 0) pa_nil)))
    (pss_cons (ps_dput hu (pv 3) (pv 1) (pe_tup (pa_cons (pe_ix ix_tup (pe_dget hu (pv 0) (pv 1) (fun _ _ => rfl)) pe_int (fun _ _ => rfl)) (pa_cons (pe_ix ix_tup (pe_dget hu (pv 0) (pv 1) (fun _ _ => rfl)) pe_int (fun _ _ => rfl)) (pa_cons (pe_op op_add (pe_ix ix_tup (pe_dget hu (pv 0) (pv 1) (fun _ _ => rfl)) pe_int (fun _ _ => rfl)) (pv 2)) pa_nil)))) rfl)
    (pss_cons (ps_for PassesOwn.never rfl (pi_list (pe_call (ok_law_line T) (hr.mono (by decide)) rfl T.g_law_line T.d_law_line.F.kp T.d_law_line.b .nil pass0 (pa_cons (pv 0) (pa_cons (pv 1) pa_nil)))) (pg_name (i := 4) sc_law_laid.nd rfl (by first | exact Or.inl rfl | exact Or.inr rfl)) (pss_one (ps_if (pt_not (pt_chain op_le op_le pe_int (pe_call (ok_law_number T) (hr.mono (by decide)) rfl T.g_law_number T.d_law_number.F.kp T.d_law_number.b .nil pass0 (pa_cons (pv 3) (pa_cons (pv 4) pa_nil))) pe_int)) (pss_one (ps_ret (pe_tup (pa_cons pe_str (pa_cons pe_non (pa_cons (pv 0) pa_nil)))))) pss_nil)))
    (pss_one (ps_ret (pe_tup (pa_cons pe_str (pa_cons (pe_ix ix_tup (pe_dget hu (pv 3) (pv 1) (fun _ _ => rfl)) pe_int (fun _ _ => rfl)) (pa_cons (pv 3) pa_nil)))))))))))
theorem ok_law_moved (T : Txt K mg) : FnOk P w K mg base CX0 4 (He.ga K "_law_moved") (fdAt K (("_law_moved" : Str), (none : Option Str))) ["rows", "cord", "place"] (sp_law_moved K) := by
  refine (T.d_law_moved.F.ok sc_law_moved (fun vs H Q E h => len_law_moved h) (fun cdv A outer s H vs Q E hr h => ⟨t_law_moved K E, PSs.nox ?_, pure_law_moved K vs H Q E h⟩) : FnOk P w K mg base CX0 (3 + 1) _ _ _ _)
  have hu := hu_of hr
  exact (pss_cons (ps_if (PW.pt (pw_or (pt_cmp (pc_dnotin hu (pv 1) (pv 0)) (by with_unfolding_all rfl)) (pw_or1 (PW.pt (pw_and (pt_cmpR op_notN (pv 2) pe_non (nomark _)) (pw_and1 (pt_cmp (pc_dnotin hu (pv 2) (pv 0)) (by with_unfolding_all rfl)))))))) (pss_one (ps_ret (pe_tup (pa_cons pe_str (pa_cons pe_non (pa_cons (pv 0) pa_nil)))))) pss_nil)
    (pss_cons (ps_if (PW.pt (pw_and (pt_cmpR op_notN (pv 2) pe_non (nomark _)) (pw_and1 (pt_cmpR op_in_seq (pv 1) (pe_call (ok_law_line T) (hr.mono (by decide)) rfl T.g_law_line T.d_law_line.F.kp T.d_law_line.b .nil pass0 (pa_cons (pv 0) (pa_cons (pv 2) pa_nil))) (by with_unfolding_all rfl))))) (pss_one (ps_ret (pe_tup (pa_cons pe_str (pa_cons pe_non (pa_cons (pv 0) pa_nil)))))) pss_nil)
    (pss_cons (ps_if (PW.pt (pw_and (pt_cmpR op_notN (pv 2) pe_non (nomark _)) (pw_and (pt_val (pe_call (ok_law_is_end T) (hr.mono (by decide)) rfl T.g_law_is_end T.d_law_is_end.F.kp T.d_law_is_end.b .nil pass0 (pa_cons (pv 0) (pa_cons (pv 2) pa_nil)))) (pw_and1 (pt_cmpR op_ne (pe_ix ix_tup (pe_dget hu (pv 0) (pv 2) (fun _ _ => rfl)) pe_int (fun _ _ => rfl)) pe_int (nomark _)))))) (pss_one (ps_ret (pe_tup (pa_cons pe_str (pa_cons pe_non (pa_cons (pv 0) pa_nil)))))) pss_nil)
    (pss_cons (ps_set (i := 3) sc_law_moved.nd rfl (by first | exact Or.inl rfl | exact Or.inr rfl) (pe_callTy call_dictD (by rfl) T.n_dict (by decide +kernel) (pa_cons (pv 0) pa_nil)))
    (pss_cons (ps_dput hu (pv 3) (pv 1) (pe_tup (pa_cons (pv 2) (pa_cons (pe_ix ix_tup (pe_dget hu (pv 0) (pv 1) (fun _ _ => rfl)) pe_int (fun _ _ => rfl)) (pa_cons (pe_ix ix_tup (pe_dget hu (pv 0) (pv 1) (fun _ _ => rfl)) pe_int (fun _ _ => rfl)) pa_nil)))) rfl)
    (pss_cons (ps_lock (ps_for PassesOwn.never rfl (pi_keys (pv 3)) (pg_name (i := 4) sc_law_moved.nd rfl (by first | exact Or.inl rfl | exact Or.inr rfl)) (pss_one (ps_if (pt_cmpR op_gt (pe_call (ok_law_number T) (hr.mono (by decide)) rfl T.g_law_number T.d_law_number.F.kp T.d_law_number.b .nil pass0 (pa_cons (pv 3) (pa_cons (pv 4) pa_nil))) pe_int (nomark _)) (pss_one (ps_ret (pe_tup (pa_cons pe_str (pa_cons pe_non (pa_cons (pv 0) pa_nil)))))) pss_nil))))
    (pss_one (ps_ret (pe_tup (pa_cons pe_str (pa_cons (pe_call (ok_law_number T) (hr.mono (by decide)) rfl T.g_law_number T.d_law_number.F.kp T.d_law_number.b .nil pass0 (pa_cons (pv 0) (pa_cons (pv 1) pa_nil))) (pa_cons (pv 3) pa_nil))))))))))))
theorem ok_law_due (T : Txt K mg) : FnOk P w K mg base CX0 5 (He.ga K "_law_due") (fdAt K (("_law_due" : Str), (none : Option Str))) ["rows", "following", "past", "deed"] (sp_law_due K) := by
  refine (T.d_law_due.F.ok sc_law_due (fun vs H Q E h => len_law_due h) (fun cdv A outer s H vs Q E hr h => ⟨t_law_due K E, PSs.nox ?_, pure_law_due K vs H Q E h⟩) : FnOk P w K mg base CX0 (4 + 1) _ _ _ _)
  have hu := hu_of hr
  exact (pss_cons (ps_if (pt_cmpR op_eq (pe_ix ix_tup (pv 3) pe_int (fun _ _ => rfl)) pe_str (nomark _)) (pss_one (ps_ret (pe_call (ok_law_hung T) (hr.mono (by decide)) rfl T.g_law_hung T.d_law_hung.F.kp T.d_law_hung.b .nil pass0 (pa_cons (pv 0) (pa_cons (pv 1) (pa_cons (pe_ix ix_tup (pv 3) pe_int (fun _ _ => rfl)) (pa_cons (pe_ix ix_tup (pv 3) pe_int (fun _ _ => rfl)) pa_nil))))))) pss_nil)
    (pss_cons (ps_if (pt_cmpR op_eq (pe_ix ix_tup (pv 3) pe_int (fun _ _ => rfl)) pe_str (nomark _)) (pss_one (ps_ret (pe_call (ok_law_laid T) (hr.mono (by decide)) rfl T.g_law_laid T.d_law_laid.F.kp T.d_law_laid.b .nil pass0 (pa_cons (pv 0) (pa_cons (pe_ix ix_tup (pv 3) pe_int (fun _ _ => rfl)) (pa_cons (pe_ix ix_tup (pv 3) pe_int (fun _ _ => rfl)) pa_nil)))))) pss_nil)
    (pss_cons (ps_if (pt_cmpR op_eq (pe_ix ix_tup (pv 3) pe_int (fun _ _ => rfl)) pe_str (nomark _)) (pss_one (ps_ret (pe_call (ok_law_moved T) (hr.mono (by decide)) rfl T.g_law_moved T.d_law_moved.F.kp T.d_law_moved.b .nil pass0 (pa_cons (pv 0) (pa_cons (pe_ix ix_tup (pv 3) pe_int (fun _ _ => rfl)) (pa_cons (pe_ix ix_tup (pv 3) pe_int (fun _ _ => rfl)) pa_nil)))))) pss_nil)
    (pss_cons (ps_if (pt_cmpR op_eq (pe_ix ix_tup (pv 3) pe_int (fun _ _ => rfl)) pe_str (nomark _)) (pss_one (ps_ret (pe_call (ok_law_cut T) (hr.mono (by decide)) rfl T.g_law_cut T.d_law_cut.F.kp T.d_law_cut.b .nil pass0 (pa_cons (pv 0) (pa_cons (pe_ix ix_tup (pv 3) pe_int (fun _ _ => rfl)) pa_nil))))) pss_nil)
    (pss_cons (ps_if (pt_cmpR op_eq (pe_callB call_len_seq (by rfl) T.n_len (by decide +kernel) (pa_cons (pv 2) pa_nil)) pe_int (nomark _)) (pss_one (ps_ret (pe_tup (pa_cons pe_str (pa_cons pe_non (pa_cons (pv 0) pa_nil)))))) pss_nil)
    (pss_one (ps_ret (pe_tup (pa_cons pe_str (pa_cons (pe_op op_sub (pe_callB call_len_seq (by rfl) T.n_len (by decide +kernel) (pa_cons (pv 2) pa_nil)) pe_int) (pa_cons (pe_ix ix_tup (pe_ix ix_list (pv 2) (pe_un un_neg pe_int) (fun _ _ => rfl)) pe_int (fun _ _ => rfl)) pa_nil)))))))))))
theorem ok_law (T : Txt K mg) : FnOk P w K mg base CX0 11 (He.ga K "law") (fdAt K (("law" : Str), (none : Option Str))) ["script"] (sp_law K) := by
  refine (T.d_law.F.ok sc_law (fun vs H Q E h => len_law h) (fun cdv A outer s H vs Q E hr h => ⟨t_law K E, PSs.nox ?_, pure_law K vs H Q E h⟩) : FnOk P w K mg base CX0 (10 + 1) _ _ _ _)
  have hu := hu_of hr
  exact (pss_cons (ps_set (i := 1) sc_law.nd rfl (by first | exact Or.inl rfl | exact Or.inr rfl) (pe_make0 T.mk_Book (ok_Book___init__ T) (hr.mono (by decide)) rfl T.g_Book T.d_Book___init__.b .nil pass0))
    (pss_cons (ps_set (i := 2) sc_law.nd rfl (by first | exact Or.inl rfl | exact Or.inr rfl) pe_dnewK)
    (pss_cons (ps_set (i := 3) sc_law.nd rfl (by first | exact Or.inl rfl | exact Or.inr rfl) pe_int)
    (pss_cons (ps_set (i := 4) sc_law.nd rfl (by first | exact Or.inl rfl | exact Or.inr rfl) (pe_lst pa_nil))
    (pss_cons (ps_for PassesOwn.never rfl (pi_range1 (by rfl) T.n_range (pa_cons (pe_callB (call_min2 rfl) (by rfl) T.n_min (by decide +kernel) (pa_cons (pe_op op_fdiv (pe_callB call_len_seq (by rfl) T.n_len (by decide +kernel) (pa_cons (pv 0) pa_nil)) pe_int) (pa_cons pe_int pa_nil))) pa_nil)) (pg_name (i := 5) sc_law.nd rfl (by first | exact Or.inl rfl | exact Or.inr rfl)) (pss_cons (ps_set (i := 6) sc_law.nd rfl (by first | exact Or.inl rfl | exact Or.inr rfl) (pe_call (ok_law_drawn T) (hr.mono (by decide)) rfl T.g_law_drawn T.d_law_drawn.F.kp T.d_law_drawn.b .nil pass0 (pa_cons (pv 2) (pa_cons (pv 3) (pa_cons (pe_ix ix_list (pv 0) (pe_op op_mul pe_int (pv 5)) (fun _ _ => rfl)) (pa_cons (pe_ix ix_list (pv 0) (pe_op op_add (pe_op op_mul pe_int (pv 5)) pe_int) (fun _ _ => rfl)) pa_nil))))))
    (pss_cons (ps_set (i := 7) sc_law.nd rfl (by first | exact Or.inl rfl | exact Or.inr rfl) (pe_call (ok_law_due T) (hr.mono (by decide)) rfl T.g_law_due T.d_law_due.F.kp T.d_law_due.b .nil pass0 (pa_cons (pv 2) (pa_cons (pv 3) (pa_cons (pv 4) (pa_cons (pv 6) pa_nil))))))
    (pss_cons (ps_set (i := 8) sc_law.nd rfl (by first | exact Or.inl rfl | exact Or.inr rfl) (pe_call (ok_law_done T) (hr.mono (by decide)) rfl T.g_law_done T.d_law_done.F.kp T.d_law_done.b .nil pass0 (pa_cons (pv 1) (pa_cons (pv 6) pa_nil))))
    (pss_cons (ps_if (pt_cmpR op_ne (pe_ix ix_tup (pv 8) pe_int (fun _ _ => rfl)) (pe_ix ix_tup (pv 7) pe_int (fun _ _ => rfl)) (nomark _)) (pss_one (ps_ret pe_bl)) pss_nil)
    (pss_cons (ps_if (pt_cmpR op_eq (pe_ix ix_tup (pv 7) pe_int (fun _ _ => rfl)) pe_str (nomark _)) (pss_cons (ps_set (i := 9) sc_law.nd rfl (by first | exact Or.inl rfl | exact Or.inr rfl) (pe_and (pe_call (ok_law_whole T) (hr.mono (by decide)) rfl T.g_law_whole T.d_law_whole.F.kp T.d_law_whole.b .nil pass0 (pa_cons (pe_ix ix_tup (pv 8) pe_int (fun _ _ => rfl)) pa_nil)) (pe_one (pe_cmpR op_eq (pe_ix ix_tup (pv 8) pe_int (fun _ _ => rfl)) (pe_ix ix_tup (pv 7) pe_int (fun _ _ => rfl)) (nomark _)))))
    (pss_cons (ps_if (pt_cmpR op_eq (pe_ix ix_tup (pv 6) pe_int (fun _ _ => rfl)) pe_str (nomark _)) (pss_one (ps_set (i := 9) sc_law.nd rfl (by first | exact Or.inl rfl | exact Or.inr rfl) (pe_call (ok_law_same T) (hr.mono (by decide)) rfl T.g_law_same T.d_law_same.F.kp T.d_law_same.b .nil pass0 (pa_cons (pe_ix ix_tup (pv 8) pe_int (fun _ _ => rfl)) (pa_cons (pe_ix ix_tup (pv 7) pe_int (fun _ _ => rfl)) pa_nil))))) pss_nil)
    (pss_cons (ps_if (pt_not (pt_val (pv 9))) (pss_one (ps_ret pe_bl)) pss_nil)
    (pss_cons (ps_if (pt_cmpR op_eq (pe_ix ix_tup (pv 6) pe_int (fun _ _ => rfl)) pe_str (nomark _)) (pss_one (ps_set (i := 3) sc_law.nd rfl (by first | exact Or.inl rfl | exact Or.inr rfl) (pe_ix ix_tup (pe_bm0 PySem.F.plainAttrs_list PySem.F.slot_list_pop PySem.F.type_list_pop mt_pop (pv 4)) pe_int (fun _ _ => rfl)))) (pss_cons (ps_expr (pe_bm PySem.F.plainAttrs_list PySem.F.slot_list_append PySem.F.type_list_append mt_append (pv 4) (pa_cons (pe_tup (pa_cons (pv 3) (pa_cons (pv 2) pa_nil))) pa_nil)))
    (pss_one (ps_set (i := 3) sc_law.nd rfl (by first | exact Or.inl rfl | exact Or.inr rfl) (pe_op op_add (pv 3) (pe_callTy call_int1 (by rfl) T.n_int (by decide +kernel) (pa_cons (pe_cmpR op_eq (pe_ix ix_tup (pv 6) pe_int (fun _ _ => rfl)) pe_str (nomark _)) pa_nil)))))))
    (pss_one (ps_set (i := 2) sc_law.nd rfl (by first | exact Or.inl rfl | exact Or.inr rfl) (pe_ix ix_tup (pv 7) pe_int (fun _ _ => rfl)))))))) pss_nil)
    (pss_one (ps_if (pt_not (pt_val (pe_call (ok_law_alike T) (hr.mono (by decide)) rfl T.g_law_alike T.d_law_alike.F.kp T.d_law_alike.b .nil pass0 (pa_cons (pv 1) (pa_cons (pv 2) pa_nil))))) (pss_one (ps_ret pe_bl)) pss_nil))))))))
    (pss_one (ps_ret pe_bl)))))))
end
/-! ### the head -/
def fn : List He.DefD := [ddOf (("Book" : Str), some ("__init__" : Str)) "__init__" "Book.__init__" s_Book___init__,
  ddOf (("Book" : Str), some ("cords" : Str)) "cords" "Book.cords" s_Book_cords,
  ddOf (("Book" : Str), some ("asked" : Str)) "asked" "Book.asked" s_Book_asked,
  ddOf (("Book" : Str), some ("dye" : Str)) "dye" "Book.dye" s_Book_dye,
  ddOf (("Book" : Str), some ("hangers" : Str)) "hangers" "Book.hangers" s_Book_hangers,
  ddOf (("Book" : Str), some ("number" : Str)) "number" "Book.number" s_Book_number,
  ddOf (("Book" : Str), some ("over" : Str)) "over" "Book.over" s_Book_over,
  ddOf (("_law_line" : Str), (none : Option Str)) "_law_line" "_law_line" s_law_line,
  ddOf (("_law_beneath" : Str), (none : Option Str)) "_law_beneath" "_law_beneath" s_law_beneath,
  ddOf (("_law_number" : Str), (none : Option Str)) "_law_number" "_law_number" s_law_number,
  ddOf (("_law_whole" : Str), (none : Option Str)) "_law_whole" "_law_whole" s_law_whole,
  ddOf (("_law_same" : Str), (none : Option Str)) "_law_same" "_law_same" s_law_same,
  ddOf (("_law_alike" : Str), (none : Option Str)) "_law_alike" "_law_alike" s_law_alike,
  ddOf (("Book" : Str), some ("beneath" : Str)) "beneath" "Book.beneath" s_Book_beneath,
  ddOf (("Book" : Str), some ("grown" : Str)) "grown" "Book.grown" s_Book_grown,
  ddOf (("Book" : Str), some ("kept" : Str)) "kept" "Book.kept" s_Book_kept,
  ddOf (("Book" : Str), some ("line" : Str)) "line" "Book.line" s_Book_line,
  ddOf (("Book" : Str), some ("cut" : Str)) "cut" "Book.cut" s_Book_cut,
  ddOf (("Book" : Str), some ("is_end" : Str)) "is_end" "Book.is_end" s_Book_is_end,
  ddOf (("Book" : Str), some ("hang" : Str)) "hang" "Book.hang" s_Book_hang,
  ddOf (("Book" : Str), some ("lay" : Str)) "lay" "Book.lay" s_Book_lay,
  ddOf (("Book" : Str), some ("move" : Str)) "move" "Book.move" s_Book_move,
  ddOf (("Book" : Str), some ("undo" : Str)) "undo" "Book.undo" s_Book_undo,
  ddOf (("_law_answer" : Str), (none : Option Str)) "_law_answer" "_law_answer" s_law_answer,
  ddOf (("_law_done" : Str), (none : Option Str)) "_law_done" "_law_done" s_law_done,
  ddOf (("_law_drawn" : Str), (none : Option Str)) "_law_drawn" "_law_drawn" s_law_drawn,
  ddOf (("_law_cut" : Str), (none : Option Str)) "_law_cut" "_law_cut" s_law_cut,
  ddOf (("_law_is_end" : Str), (none : Option Str)) "_law_is_end" "_law_is_end" s_law_is_end,
  ddOf (("_law_hung" : Str), (none : Option Str)) "_law_hung" "_law_hung" s_law_hung,
  ddOf (("_law_laid" : Str), (none : Option Str)) "_law_laid" "_law_laid" s_law_laid,
  ddOf (("_law_moved" : Str), (none : Option Str)) "_law_moved" "_law_moved" s_law_moved,
  ddOf (("_law_due" : Str), (none : Option Str)) "_law_due" "_law_due" s_law_due,
  ddOf (("law" : Str), (none : Option Str)) "law" "law" s_law]
def fa : List Pd := [(He.Fa.meth "Book" "cords").ok,
  (He.Fa.meth "Book" "asked").ok,
  (He.Fa.meth "Book" "dye").ok,
  (He.Fa.meth "Book" "hangers").ok,
  (He.Fa.meth "Book" "number").ok,
  (He.Fa.meth "Book" "over").ok,
  (He.Fa.glo "_law_line").ok,
  (He.Fa.glo "_law_beneath").ok,
  (He.Fa.glo "_law_number").ok,
  (He.Fa.glo "_law_whole").ok,
  (He.Fa.glo "_law_same").ok,
  (He.Fa.glo "_law_alike").ok,
  (He.Fa.meth "Book" "beneath").ok,
  (He.Fa.meth "Book" "grown").ok,
  (He.Fa.meth "Book" "kept").ok,
  (He.Fa.meth "Book" "line").ok,
  (He.Fa.meth "Book" "cut").ok,
  (He.Fa.meth "Book" "is_end").ok,
  (He.Fa.meth "Book" "hang").ok,
  (He.Fa.meth "Book" "lay").ok,
  (He.Fa.meth "Book" "move").ok,
  (He.Fa.meth "Book" "undo").ok,
  (He.Fa.glo "_law_answer").ok,
  (He.Fa.glo "_law_done").ok,
  (He.Fa.glo "_law_drawn").ok,
  (He.Fa.glo "_law_cut").ok,
  (He.Fa.glo "_law_is_end").ok,
  (He.Fa.glo "_law_hung").ok,
  (He.Fa.glo "_law_laid").ok,
  (He.Fa.glo "_law_moved").ok,
  (He.Fa.glo "_law_due").ok,
  (He.Fa.glo "law").ok,
  (He.Fa.cls "Book").ok,
  (He.Fa.glo "Book").ok,
  (He.Fa.mkr "Book").ok,
  (He.Fa.noat "Book" "rows").ok,
  (He.Fa.noat "Book" "following").ok,
  (He.Fa.noat "Book" "past").ok,
  (He.Fa.glo "Knotted").ok,
  (He.Fa.exc "Knotted").ok,
  (He.Fa.glo "NoCord").ok,
  (He.Fa.exc "NoCord").ok,
  (He.Fa.glo "NotEnd").ok,
  (He.Fa.exc "NotEnd").ok,
  (He.Fa.glo "Nothing").ok,
  (He.Fa.exc "Nothing").ok,
  (He.Fa.glo "Ring").ok,
  (He.Fa.exc "Ring").ok,
  (He.Fa.glo "TooMuch").ok,
  (He.Fa.exc "TooMuch").ok,
  (He.Fa.int "MOST" 999).ok,
  (He.Fa.free "bool").ok,
  (He.Fa.free "dict").ok,
  (He.Fa.free "int").ok,
  (He.Fa.free "isinstance").ok,
  (He.Fa.free "len").ok,
  (He.Fa.free "list").ok,
  (He.Fa.free "min").ok,
  (He.Fa.free "range").ok,
  (He.Fa.free "sorted").ok,
  (He.Fa.free "sum").ok,
  allEB]
abbrev R : PySem.W.OpenRow := PySem.W.OpenLaw.row PySem.Challenge.rw_cordkeep_k12_whole_book
abbrev hk : PySem.W.Hook := hookP 4 fa fn
def ob (s : PySem.W.SharedT) : He.AlD := obsPG 4 fa fn (HandSHeadRun.getT s)
theorem ob_eq (s : PySem.W.SharedT) : ob s = hk.obs s.abs := obsPG_eq (HandSHeadRun.getT_eq s)
def loose0 : List Str := ["_wall", "CordError", "NoCord", "Knotted", "NotEnd", "TooMuch", "Ring", "Nothing", "MOST", "Book", "_law_whole", "_law_same", "_law_line", "_law_beneath", "_law_number", "_law_is_end", "_law_hung", "_law_laid", "_law_moved", "_law_cut", "_law_due", "_law_answer", "_law_done", "_law_drawn", "_law_alike"]
def loose : List Str := loose0
theorem run (w : World) : HandSHeadRun.RunEq R (PySem.W.view R.prog [28]) hk ob 8000 loose w := by
  intro os
  kernel_rfl
theorem txt {K : PySem.W.Frag} {h : Heap} {mg : Str → Option Value} (X : K.In h) (G : h.Ns mainGlobals mg) (c : SaysP fa fn K) : Txt K mg where
  d_Book___init__ := defAt_mk c 0 rfl fun _ _ _ _ _ _ us hl => match us, hl with | [_], _ => rfl
  d_Book_cords := defAt_mk c 1 rfl fun _ _ _ _ _ _ us hl => match us, hl with | [_], _ => rfl
  m_Book_cords := He.meth_ok (c.fact 0 rfl)
  d_Book_asked := defAt_mk c 2 rfl fun _ _ _ _ _ _ us hl => match us, hl with | [_, _], _ => rfl
  m_Book_asked := He.meth_ok (c.fact 1 rfl)
  d_Book_dye := defAt_mk c 3 rfl fun _ _ _ _ _ _ us hl => match us, hl with | [_, _], _ => rfl
  m_Book_dye := He.meth_ok (c.fact 2 rfl)
  d_Book_hangers := defAt_mk c 4 rfl fun _ _ _ _ _ _ us hl => match us, hl with | [_, _], _ => rfl
  m_Book_hangers := He.meth_ok (c.fact 3 rfl)
  d_Book_number := defAt_mk c 5 rfl fun _ _ _ _ _ _ us hl => match us, hl with | [_, _], _ => rfl
  m_Book_number := He.meth_ok (c.fact 4 rfl)
  d_Book_over := defAt_mk c 6 rfl fun _ _ _ _ _ _ us hl => match us, hl with | [_, _], _ => rfl
  m_Book_over := He.meth_ok (c.fact 5 rfl)
  d_law_line := defAt_mk c 7 rfl fun _ _ _ _ _ _ us hl => match us, hl with | [_, _], _ => rfl
  g_law_line := He.glo_ok X G (c.fact 6 rfl)
  d_law_beneath := defAt_mk c 8 rfl fun _ _ _ _ _ _ us hl => match us, hl with | [_, _], _ => rfl
  g_law_beneath := He.glo_ok X G (c.fact 7 rfl)
  d_law_number := defAt_mk c 9 rfl fun _ _ _ _ _ _ us hl => match us, hl with | [_, _], _ => rfl
  g_law_number := He.glo_ok X G (c.fact 8 rfl)
  d_law_whole := defAt_mk c 10 rfl fun _ _ _ _ _ _ us hl => match us, hl with | [_], _ => rfl
  g_law_whole := He.glo_ok X G (c.fact 9 rfl)
  d_law_same := defAt_mk c 11 rfl fun _ _ _ _ _ _ us hl => match us, hl with | [_, _], _ => rfl
  g_law_same := He.glo_ok X G (c.fact 10 rfl)
  d_law_alike := defAt_mk c 12 rfl fun _ _ _ _ _ _ us hl => match us, hl with | [_, _], _ => rfl
  g_law_alike := He.glo_ok X G (c.fact 11 rfl)
  d_Book_beneath := defAt_mk c 13 rfl fun _ _ _ _ _ _ us hl => match us, hl with | [_, _], _ => rfl
  m_Book_beneath := He.meth_ok (c.fact 12 rfl)
  d_Book_grown := defAt_mk c 14 rfl fun _ _ _ _ _ _ us hl => match us, hl with | [_, _, _], _ => rfl
  m_Book_grown := He.meth_ok (c.fact 13 rfl)
  d_Book_kept := defAt_mk c 15 rfl fun _ _ _ _ _ _ us hl => match us, hl with | [_], _ => rfl
  m_Book_kept := He.meth_ok (c.fact 14 rfl)
  d_Book_line := defAt_mk c 16 rfl fun _ _ _ _ _ _ us hl => match us, hl with | [_, _], _ => rfl
  m_Book_line := He.meth_ok (c.fact 15 rfl)
  d_Book_cut := defAt_mk c 17 rfl fun _ _ _ _ _ _ us hl => match us, hl with | [_, _], _ => rfl
  m_Book_cut := He.meth_ok (c.fact 16 rfl)
  d_Book_is_end := defAt_mk c 18 rfl fun _ _ _ _ _ _ us hl => match us, hl with | [_, _], _ => rfl
  m_Book_is_end := He.meth_ok (c.fact 17 rfl)
  d_Book_hang := defAt_mk c 19 rfl fun _ _ _ _ _ _ us hl => match us, hl with | [_, _, _], _ => rfl
  m_Book_hang := He.meth_ok (c.fact 18 rfl)
  d_Book_lay := defAt_mk c 20 rfl fun _ _ _ _ _ _ us hl => match us, hl with | [_, _, _], _ => rfl
  m_Book_lay := He.meth_ok (c.fact 19 rfl)
  d_Book_move := defAt_mk c 21 rfl fun _ _ _ _ _ _ us hl => match us, hl with | [_, _, _], _ => rfl
  m_Book_move := He.meth_ok (c.fact 20 rfl)
  d_Book_undo := defAt_mk c 22 rfl fun _ _ _ _ _ _ us hl => match us, hl with | [_], _ => rfl
  m_Book_undo := He.meth_ok (c.fact 21 rfl)
  d_law_answer := defAt_mk c 23 rfl fun _ _ _ _ _ _ us hl => match us, hl with | [_, _], _ => rfl
  g_law_answer := He.glo_ok X G (c.fact 22 rfl)
  d_law_done := defAt_mk c 24 rfl fun _ _ _ _ _ _ us hl => match us, hl with | [_, _], _ => rfl
  g_law_done := He.glo_ok X G (c.fact 23 rfl)
  d_law_drawn := defAt_mk c 25 rfl fun _ _ _ _ _ _ us hl => match us, hl with | [_, _, _, _], _ => rfl
  g_law_drawn := He.glo_ok X G (c.fact 24 rfl)
  d_law_cut := defAt_mk c 26 rfl fun _ _ _ _ _ _ us hl => match us, hl with | [_, _], _ => rfl
  g_law_cut := He.glo_ok X G (c.fact 25 rfl)
  d_law_is_end := defAt_mk c 27 rfl fun _ _ _ _ _ _ us hl => match us, hl with | [_, _], _ => rfl
  g_law_is_end := He.glo_ok X G (c.fact 26 rfl)
  d_law_hung := defAt_mk c 28 rfl fun _ _ _ _ _ _ us hl => match us, hl with | [_, _, _, _], _ => rfl
  g_law_hung := He.glo_ok X G (c.fact 27 rfl)
  d_law_laid := defAt_mk c 29 rfl fun _ _ _ _ _ _ us hl => match us, hl with | [_, _, _], _ => rfl
  g_law_laid := He.glo_ok X G (c.fact 28 rfl)
  d_law_moved := defAt_mk c 30 rfl fun _ _ _ _ _ _ us hl => match us, hl with | [_, _, _], _ => rfl
  g_law_moved := He.glo_ok X G (c.fact 29 rfl)
  d_law_due := defAt_mk c 31 rfl fun _ _ _ _ _ _ us hl => match us, hl with | [_, _, _, _], _ => rfl
  g_law_due := He.glo_ok X G (c.fact 30 rfl)
  d_law := defAt_mk c 32 rfl fun _ _ _ _ _ _ us hl => match us, hl with | [_], _ => rfl
  g_law := He.glo_ok X G (c.fact 31 rfl)
  cl_Book := He.cls_ok (c.fact 32 rfl)
  g_Book := He.glo_ok X G (c.fact 33 rfl)
  mk_Book := He.mkr_ok (c.fact 34 rfl)
  na_rows := He.noat_ok (c.fact 35 rfl)
  na_following := He.noat_ok (c.fact 36 rfl)
  na_past := He.noat_ok (c.fact 37 rfl)
  x_Knotted := excAt_mk X G (c.fact 38 rfl) (c.fact 39 rfl)
  x_NoCord := excAt_mk X G (c.fact 40 rfl) (c.fact 41 rfl)
  x_NotEnd := excAt_mk X G (c.fact 42 rfl) (c.fact 43 rfl)
  x_Nothing := excAt_mk X G (c.fact 44 rfl) (c.fact 45 rfl)
  x_Ring := excAt_mk X G (c.fact 46 rfl) (c.fact 47 rfl)
  x_TooMuch := excAt_mk X G (c.fact 48 rfl) (c.fact 49 rfl)
  g_MOST := He.int_ok X G (c.fact 50 rfl)
  n_bool := He.free_ok X G (c.fact 51 rfl)
  n_dict := He.free_ok X G (c.fact 52 rfl)
  n_int := He.free_ok X G (c.fact 53 rfl)
  n_isinstance := He.free_ok X G (c.fact 54 rfl)
  n_len := He.free_ok X G (c.fact 55 rfl)
  n_list := He.free_ok X G (c.fact 56 rfl)
  n_min := He.free_ok X G (c.fact 57 rfl)
  n_range := He.free_ok X G (c.fact 58 rfl)
  n_sorted := He.free_ok X G (c.fact 59 rfl)
  n_sum := He.free_ok X G (c.fact 60 rfl)
  alle := allEB_ok (c.fact 61 rfl)
end K12
open PySem PySem.W PySem.Calls PyProof.Rows
set_option maxRecDepth 100000 in
set_option maxHeartbeats 0 in
theorem PySem.Challenge.cw_cordkeep_k12_whole_book_holds : PySem.Challenge.rw_cordkeep_k12_whole_book.Holds := by
  w_on; o_law
  refine HandSHeadRun.head_any (r := OpenLaw.row PySem.Challenge.rw_cordkeep_k12_whole_book) (q := view (OpenLaw.row PySem.Challenge.rw_cordkeep_k12_whole_book).prog [28]) (H := K12.hk) (ob := K12.ob) (M := 8000) (loose := K12.loose) (d := HandSHeadRun.topDef (OpenLaw.row PySem.Challenge.rw_cordkeep_k12_whole_book).prog 28) (kwd := []) K12.ob_eq
    (by kernel_rfl) (fun s => by kernel_rfl) K12.run (by kernel_rfl) (by kernel_rfl) (by kernel_rfl) (by rfl) (by first | assumption | decide +kernel) (by decide +kernel) ⟨rfl, rfl, rfl, rfl, rfl, by decide +kernel⟩ ?hw ?hc
  case hw => w_witness2
  case hc =>
    refine L2.walk_ofE (l := PySem.Challenge.rw_cordkeep_k12_whole_book) (n := 63) (k := 11) (x := "script") (CX := L2.CX0) rfl (by decide) (by kernel_rfl) ⟨rfl, by decide, by decide⟩ ?F (fun _ _ _ _ z => z)
    intro w mg fa h Y G hmg0
    obtain ⟨K, KX, c⟩ := Y
    have hmg : mg ("law" : PySem.Str) = some (.ref fa) := by
      have e : (HandSHeadRun.topDef (OpenLaw.row PySem.Challenge.rw_cordkeep_k12_whole_book).prog 28).name = ("law" : PySem.Str) := by kernel_rfl
      rw [← e]
      exact hmg0
    have T := K12.txt KX G c
    have e := hmg.symm.trans T.g_law
    cases e
    have b := L2.FunD.bindsA (ps := ["script"]) T.d_law.F fun _ _ _ _ _ _ us hl => match us, hl with | [_], _ => rfl
    exact ⟨K, _, K12.sp_law K, KX, fun s v => b s [v] rfl, fun H a ns hl _ hS => ⟨a, ns, rfl, hS, hl, fun _ => rfl⟩, fun base _ _ => K12.ok_law T⟩

#print axioms PySem.Challenge.cw_cordkeep_k12_whole_book_holds
