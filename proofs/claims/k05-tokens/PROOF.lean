import PyProof.Rows.All
import Wide.All
import OpenK.AllK
import Wide.FinOn
import HandS.ForMost
import HandS.ForExc
import HandS.Wide
import HandS.IsInst
import HandS.TupAny
import HandS.Flow
import HandS.Deep
import HandS.Evl
import PySem.Challenge.RW_oncefolded_k05_tokens
import HandS.ExcOwn
import KE.KExcSuper
import HandS.ExcInit
import HandS.ExcSuper
import HandS.ExcField
import HandS.ExcIs
import HandS.TryMany
import KE.KExcIs
import HandS.Ends
set_option Elab.async false
set_option linter.all false
set_option maxRecDepth 100000
set_option maxHeartbeats 4000000
namespace My
open PySem PySem.Spec L2

/-! ### frames: what stays of a tracked heap; M: the addresses that may change -/
def Fr (M : List Addr) (H H' : Hp) : Prop := (∀ a xs, H a = some (.tup xs) → H' a = some (.tup xs)) ∧ (∀ a o, H a = some o → a ∉ M → H' a = some o) ∧ (∀ a, H' a = none → H a = none)
theorem Fr.refl {M : List Addr} (H : Hp) : Fr M H H := ⟨fun _ _ h => h, fun _ _ h _ => h, fun _ h => h⟩
theorem Fr.trans {M : List Addr} {H H1 H2 : Hp} (a : Fr M H H1) (b : Fr M H1 H2) : Fr M H H2 :=
  ⟨fun p xs h => b.1 p xs (a.1 p xs h), fun p o h n => b.2.1 p o (a.2.1 p o h n) n, fun p h => a.2.2 p (b.2.2 p h)⟩
theorem Fr.mono {M M' : List Addr} {H H' : Hp} (a : Fr M H H') (s : ∀ x, x ∈ M → x ∈ M') : Fr M' H H' := ⟨a.1, fun p o h n => a.2.1 p o h fun z => n (s p z), a.2.2⟩
theorem Fr.nil {M : List Addr} {H H' : Hp} (a : Fr [] H H') : Fr M H H' := a.mono fun _ h => nomatch h
theorem Fr.free {M : List Addr} {H H' : Hp} {p : Addr} (a : Fr M H H') (h : H' p = none) : H p = none := a.2.2 p h
theorem Fr.new {M : List Addr} {H : Hp} {p : Addr} {o : HO} (h : H p = none) : Fr M H (upd H p o) := by
  refine ⟨fun a xs e => ?_, fun a u e _ => ?_, fun a e => ?_⟩
  · rw [upd_ne (ne_of_none e h)]; exact e
  · rw [upd_ne (ne_of_none e h)]; exact e
  · by_cases z : a = p
    · subst z; exact h
    · rw [upd_ne z] at e; exact e
/-- an object that may change is written -/
theorem Fr.put {M : List Addr} {H : Hp} {p : Addr} {o u : HO} (h : H p = some u) (hu : ∀ xs, u ≠ .tup xs) (hp : p ∈ M) : Fr M H (upd H p o) := by
  refine ⟨fun a xs e => ?_, fun a v e n => ?_, fun a e => ?_⟩
  · rw [upd_ne (ne_of e h fun z => hu xs z.symm)]; exact e
  · rw [upd_ne (fun z => n (by rw [z]; exact hp))]; exact e
  · by_cases z : a = p
    · subst z; rw [upd_same] at e; cases e
    · rw [upd_ne z] at e; exact e
theorem Fr.putL {M : List Addr} {H : Hp} {p : Addr} {o : HO} {xs : List V} (h : H p = some (.lst xs)) (hp : p ∈ M) : Fr M H (upd H p o) := .put h (fun _ z => nomatch z) hp
/-- what was not there ahead needs no mention -/
theorem Fr.drop {M : List Addr} {H H1 H2 : Hp} {p : Addr} (a : Fr M H H1) (b : Fr (p :: M) H1 H2) (h : H p = none) : Fr M H H2 :=
  ⟨fun q xs e => b.1 q xs (a.1 q xs e), fun q o e n => b.2.1 q o (a.2.1 q o e n) (by
    intro z
    rcases List.mem_cons.mp z with z | z
    · subst z; rw [h] at e; cases e
    · exact n z), fun q e => a.2.2 q (b.2.2 q e)⟩
theorem Fr.lst {M : List Addr} {H H' : Hp} {p : Addr} {xs : List V} (a : Fr M H H') (h : H p = some (.lst xs)) (n : p ∉ M := by simp) : H' p = some (.lst xs) := a.2.1 p _ h n
theorem Fr.tup {M : List Addr} {H H' : Hp} {p : Addr} {xs : List V} (a : Fr M H H') (h : H p = some (.tup xs)) : H' p = some (.tup xs) := a.1 p _ h
theorem Fr.sql {K : PySem.W.Frag} {H H' : Hp} {p : Addr} {xs : List V} (a : Fr [] H H') (h : SqL K H p xs) : SqL K H' p xs := by
  rcases h with (h | ⟨o, h⟩) | h
  · exact .inl (.inl (a.2.1 _ _ h (by simp)))
  · exact .inl (.inr ⟨o, a.2.1 _ _ h (by simp)⟩)
  · exact .inr h
theorem sqL {K : PySem.W.Frag} {H : Hp} {a : Addr} {xs : List V} (h : H a = some (.lst xs)) : SqL K H a xs := .inl (.inl h)
theorem sqT {K : PySem.W.Frag} {H : Hp} {a : Addr} {xs : List V} (h : H a = some (.tup xs)) : SqT K H a xs := .inl (.inl h)
theorem small {n : Nat} (h : n ≤ 100000) : n ≤ sizeLine := Nat.le_trans h (by decide)
theorem smallL {n : Nat} (h : n ≤ 100000) : n < sizeLine := Nat.lt_of_le_of_lt h (by decide)

/-! ### data that never changes -/
mutual
inductive Im (H : Hp) : V → PyData → Prop
  | non : Im H .non .none
  | bl (b : Bool) : Im H (.bl b) (.bool b)
  | int (i : Int) : Im H (.int i) (.int i)
  | str (x : Str) : Im H (.str x) (.str x)
  | tup {a : Addr} {xs : List V} {ds : List PyData} : H a = some (.tup xs) → ImAll H xs ds → Im H (.ref a) (.tuple ds)
inductive ImAll (H : Hp) : List V → List PyData → Prop
  | nil : ImAll H [] []
  | cons {v : V} {vs : List V} {d : PyData} {ds : List PyData} : Im H v d → ImAll H vs ds → ImAll H (v :: vs) (d :: ds)
end
mutual
theorem Im.fr {M : List Addr} {H H' : Hp} (f : Fr M H H') : ∀ {d : PyData} {v : V}, Im H v d → Im H' v d
  | .none, _, .non => .non
  | .bool _, _, .bl b => .bl b
  | .int _, _, .int i => .int i
  | .str _, _, .str x => .str x
  | .tuple _, _, .tup h r => .tup (f.1 _ _ h) (ImAll.fr f r)
theorem ImAll.fr {M : List Addr} {H H' : Hp} (f : Fr M H H') : ∀ {ds : List PyData} {vs : List V}, ImAll H vs ds → ImAll H' vs ds
  | [], _, .nil => .nil
  | _ :: _, _, .cons a r => .cons (Im.fr f a) (ImAll.fr f r)
end
mutual
theorem Im.dp {K : PySem.W.Frag} {H : Hp} : ∀ {d : PyData} {v : V}, Im H v d → Dp K H v d
  | .none, _, .non => .non
  | .bool _, _, .bl b => .bl b
  | .int _, _, .int i => .int i
  | .str _, _, .str x => .str x
  | .tuple _, _, .tup h r => .tup (sqT h) (ImAll.dp r)
theorem ImAll.dp {K : PySem.W.Frag} {H : Hp} : ∀ {ds : List PyData} {vs : List V}, ImAll H vs ds → DpAll K H vs ds
  | [], _, .nil => .nil
  | _ :: _, _, .cons a r => .cons (Im.dp a) (ImAll.dp r)
end
theorem ImAll.length {H : Hp} : ∀ {ds : List PyData} {vs : List V}, ImAll H vs ds → vs.length = ds.length
  | [], _, .nil => rfl
  | _ :: _, _, .cons _ r => congrArg (· + 1) r.length
theorem ImAll.get {H : Hp} : ∀ {ds : List PyData} {vs : List V} {i : Nat} {d : PyData}, ImAll H vs ds → ds[i]? = some d → ∃ v, vs[i]? = some v ∧ Im H v d
  | _, _, _, _, .nil, e => by simp at e
  | _, _, 0, _, .cons r _, e => by simp at e; subst e; exact ⟨_, rfl, r⟩
  | _, _, i + 1, d, .cons _ t, e => by
    obtain ⟨u, h1, h2⟩ := ImAll.get (i := i) (d := d) t (by simpa using e)
    exact ⟨u, by simpa using h1, h2⟩
theorem ImAll.snoc {H : Hp} : ∀ {ds : List PyData} {vs : List V} {v : V} {d : PyData}, ImAll H vs ds → Im H v d → ImAll H (vs ++ [v]) (ds ++ [d])
  | [], _, _, _, .nil, r => .cons r .nil
  | _ :: _, _, _, _, .cons a t, r => .cons a (ImAll.snoc t r)
theorem ImAll.append {H : Hp} : ∀ {ds es : List PyData} {vs us : List V}, ImAll H vs ds → ImAll H us es → ImAll H (vs ++ us) (ds ++ es)
  | [], _, _, _, .nil, r => r
  | _ :: _, _, _, _, .cons a t, r => .cons a (ImAll.append t r)

/-! ### a def that has been shown -/
structure Got (P : Program) (w : World) (K : PySem.W.Frag) (mg : Str → Option Value) (base : Heap) (CX : CXT) (x : Str) (k : Nat) (ps : List Str) (sp : Sp) : Prop where
  ex : ∃ (f : Addr) (fd : FuncData), FnOk P w K mg base CX k f fd ps sp ∧ mg x = some (.ref f) ∧ PySem.W.keepIn K (.ref f) = true ∧ Binds K fd ps []
theorem Got.imp {P : Program} {w : World} {K : PySem.W.Frag} {mg : Str → Option Value} {base : Heap} {CX : CXT} {x : Str} {k : Nat} {ps : List Str} {sp sp' : Sp} (G : Got P w K mg base CX x k ps sp) (h : ∀ vs H Q E, sp' vs H Q E → sp vs H Q E) : Got P w K mg base CX x k ps sp' := by
  obtain ⟨f, fd, F, m, kp, b⟩ := G.ex
  exact ⟨f, fd, F.imp h, m, kp, b⟩
theorem Got.mono {P : Program} {w : World} {K : PySem.W.Frag} {mg : Str → Option Value} {base : Heap} {CX : CXT} {x : Str} {j k : Nat} {ps : List Str} {sp : Sp} (G : Got P w K mg base CX x j ps sp) (h : j ≤ k) : Got P w K mg base CX x k ps sp := by
  obtain ⟨f, fd, F, m, kp, b⟩ := G.ex
  exact ⟨f, fd, F.mono h, m, kp, b⟩
def tGot (sp : Sp) (E : XK) (t : TA) : TE := fun σ H Q => t σ H fun vs H1 => sp vs H1 Q E
section
variable {X : Cx}
theorem pe_gotE {CX : CXT} {x : Str} {e : Expr} {es : List Expr} {p pos : Pos} {t : TA} {k : Nat} {ps : List Str} {sp : Sp} {E : XK} (G : Got X.prog X.w X.K X.mg X.base CX x k ps sp) (hr : Room k X.A) (hx : Passes CX X E) (hg : Gl X x) (ha : PA X (e :: es) t)
    (hdb : (x == ("__debug__" : Str)) = false := by decide) (he : starEach (e :: es) X.env = (false, eval e X.env) :: starEach es X.env := by rfl) (hpl : (backTo pos (starEach es X.env)).any (·.1) = false := by rfl) :
    PE X (.Call (.Name x p) (e :: es) [] pos) (tGot sp E t) := by
  obtain ⟨f, fd, F, m, kp, b⟩ := G.ex
  have h := pe_call (pos := pos) (p := p) F hr hg m kp b .nil hx ha hdb he hpl
  refine ⟨fun pins s σ H Q I q => h.run pins s σ H Q I ?_⟩
  have e2 : (fun vs H1 => sp (vs ++ []) H1 Q E) = fun vs H1 => sp vs H1 Q E := by
    funext vs H1
    rw [List.append_nil]
  show t σ H fun vs H1 => sp (vs ++ []) H1 Q E
  rw [e2]
  exact q
theorem pe_got {x : Str} {e : Expr} {es : List Expr} {p pos : Pos} {t : TA} {k : Nat} {ps : List Str} {sp : Sp} (G : Got X.prog X.w X.K X.mg X.base CX0 x k ps sp) (hr : Room k X.A) (hg : Gl X x) (ha : PA X (e :: es) t)
    (hdb : (x == ("__debug__" : Str)) = false := by decide) (he : starEach (e :: es) X.env = (false, eval e X.env) :: starEach es X.env := by rfl) (hpl : (backTo pos (starEach es X.env)).any (·.1) = false := by rfl) :
    PE X (.Call (.Name x p) (e :: es) [] pos) (tGot sp E0 t) := pe_gotE G hr pass0 hg ha hdb he hpl

theorem pe_gk {x : Str} {v : V} {pos : Pos} (hg : Gl X x) (h : ∃ u, X.mg x = some u ∧ RelV v u) (hd : (x == ("__debug__" : Str)) = false := by decide) : PE X (.Name x pos) (tC v) := by
  obtain ⟨u, m, r⟩ := h
  exact pe_glob hg m r hd
/-! ### rules by name -/
def rInt1 : List V → Hp → VK → Prop := fun xs H Q => ∃ i, xs = [.int i] ∧ Q (.int i) H
theorem y_int1 : CallR X (.type "int") rInt1 := fun pins s σ H xs us Q I r h => call_int1 pins s σ H xs us Q I r (.inl h)
def rLenS : List V → Hp → VK → Prop := fun xs H Q => ∃ z, xs = [.str z] ∧ z.length ≤ sizeLine ∧ Q (.int z.length) H
theorem y_lenS : CallR X (.builtin "len") rLenS := call_len_str
def rLenL (K : PySem.W.Frag) : List V → Hp → VK → Prop := fun xs H Q => ∃ p ys, xs = [.ref p] ∧ (SqL K H p ys ∨ SqT K H p ys) ∧ Q (.int ys.length) H
theorem y_lenL : CallR X (.builtin "len") (rLenL X.K) := call_len_seq
def rListOf (K : PySem.W.Frag) : List V → Hp → VK → Prop := fun xs H Q => ∃ p ys, xs = [.ref p] ∧ (SqL K H p ys ∨ SqT K H p ys) ∧ ∀ l, H l = none → Q (.ref l) (upd H l (.lst ys))
theorem y_listOf : CallR X (.type "list") (rListOf X.K) := call_list_of
def rTupOf (K : PySem.W.Frag) : List V → Hp → VK → Prop := fun xs H Q => ∃ p ys, xs = [.ref p] ∧ SqL K H p ys ∧ ∀ l, H l = none → Q (.ref l) (upd H l (.tup ys))
theorem y_tupOf : CallR X (.type "tuple") (rTupOf X.K) := fun pins s σ H xs us Q I r h => call_tuple_of pins s σ H xs us Q I r (by
  obtain ⟨p, ys, e, a, q⟩ := h
  exact ⟨p, ys, e, .inl ⟨a, q⟩⟩)
def rInC : R2 := fun x y H Q => ∃ (c : Nat) (z : Str), x = .str ⟨#[c]⟩ ∧ y = .str z ∧ Q (.bl (decide (c ∈ z.cps.toList))) H
theorem y_inC : OpR X (compareOp .In) rInC := op_in_sign
def rNotInC : R2 := fun x y H Q => ∃ (c : Nat) (z : Str), x = .str ⟨#[c]⟩ ∧ y = .str z ∧ Q (.bl (!decide (c ∈ z.cps.toList))) H
theorem y_notInC : OpR X (compareOp .NotIn) rNotInC := op_notIn_sign
def rAddS : R2 := fun x y H Q => ∃ i j, x = .str i ∧ y = .str j ∧ i.length + j.length ≤ sizeLine ∧ Q (.str (i ++ j)) H
theorem y_addS : OpR X (binaryOp .Add) rAddS := op_add_str
def rIsN : R2 := fun x y H Q => y = .non ∧ Q (.bl (decide (x = .non))) H
theorem y_isN : OpR X (compareOp .Is) rIsN := op_isN
def rLtS : R2 := fun x y H Q => ∃ i j, x = .str i ∧ y = .str j ∧ Q (.bl (decide (i.cps.toList < j.cps.toList))) H
theorem y_ltS : OpR X (compareOp .Lt) rLtS := op_lt_str
end

def NewT (xs : List V) (H1 : Hp) (Q : VK) : Prop := xs.length ≤ sizeLine ∧ ∀ p, H1 p = none → Q (.ref p) (upd H1 p (.tup xs))
def NewL (xs : List V) (H1 : Hp) (Q : VK) : Prop := xs.length ≤ sizeLine ∧ ∀ p, H1 p = none → Q (.ref p) (upd H1 p (.lst xs))
/-! ### steps of a reading -/
section
variable {K : PySem.W.Frag} {σ σ' : St} {H : Hp} {Q : VK} {QT : Bool → Hp → Prop} {QA : List V → Hp → Prop} {v x y : V} {ta tb tc : TE} {r : R2} {D : Ends} {t u : TS} {tt tu : TT} {tr : TA} {E : XK} {sp : Sp}
theorem x_var {i : Nat} (h : σ[i]? = some (some v)) (k : Q v H) : tVar i σ H Q := ⟨v, h, k⟩
theorem x_c (k : Q v H) : tC v σ H Q := k
theorem x_op (k : ta σ H fun x H1 => tb σ H1 fun y H2 => r x y H2 Q) : tOp r ta tb σ H Q := k
theorem x_un {r : V → Hp → VK → Prop} (k : ta σ H fun x H1 => r x H1 Q) : tUn r ta σ H Q := k
theorem x_rU {g : Int → V} {i : Int} (k : Q (g i) H) : rU g (.int i) H Q := ⟨i, rfl, k⟩
theorem x_rI0 {g : Int → Int → V} {i j : Int} (k : Q (g i j) H) : rI0 g (.int i) (.int j) H Q := ⟨i, j, rfl, rfl, k⟩
theorem x_rI {C : Int → Int → Prop} {g : Int → Int → V} {i j : Int} (c : C i j) (k : Q (g i j) H) : rI C g (.int i) (.int j) H Q := ⟨i, j, rfl, rfl, c, k⟩
theorem x_rIne {g : Int → Int → V} {i j : Int} (c : j ≠ 0) (k : Q (g i j) H) : rI (fun _ j => j ≠ 0) g (.int i) (.int j) H Q := ⟨i, j, rfl, rfl, c, k⟩
theorem dec_i {i j : Int} : decide (V.int i = V.int j) = decide (i = j) := decide_eq_decide.mpr ⟨V.int.inj, congrArg _⟩
theorem dec_s {i j : Str} : decide (V.str i = V.str j) = decide (i = j) := decide_eq_decide.mpr ⟨V.str.inj, congrArg _⟩
theorem dec_b {i j : Bool} : decide (V.bl i = V.bl j) = decide (i = j) := decide_eq_decide.mpr ⟨V.bl.inj, congrArg _⟩
theorem x_eqI {i j : Int} (k : Q (.bl (decide (i = j))) H) : rEq (.int i) (.int j) H Q := ⟨rfl, by rw [dec_i]; exact k⟩
theorem x_eqS {i j : Str} (k : Q (.bl (decide (i = j))) H) : rEq (.str i) (.str j) H Q := ⟨rfl, by rw [dec_s]; exact k⟩
theorem x_eqB {i j : Bool} (k : Q (.bl (decide (i = j))) H) : rEq (.bl i) (.bl j) H Q := ⟨rfl, by rw [dec_b]; exact k⟩
theorem x_neI {i j : Int} (k : Q (.bl (!decide (i = j))) H) : rNe (.int i) (.int j) H Q := ⟨rfl, by rw [dec_i]; exact k⟩
theorem x_neS {i j : Str} (k : Q (.bl (!decide (i = j))) H) : rNe (.str i) (.str j) H Q := ⟨rfl, by rw [dec_s]; exact k⟩
theorem x_test (k : ta σ H fun x H' => ∃ k, x = .bl k ∧ QT k H') : tTest ta σ H QT := k
theorem x_tB (k : ta σ H fun x H' => ∃ k, x = .bl k ∧ QT k H') : tB ta σ H QT := k
theorem x_bl {p : Bool → Prop} {b : Bool} (k : p b) : ∃ k, V.bl b = .bl k ∧ p k := ⟨b, rfl, k⟩
theorem x_and (k : tt σ H fun c H1 => if c = true then tu σ H1 QT else QT false H1) : tAnd tt tu σ H QT := k
theorem x_or (k : tt σ H fun c H1 => if c = true then QT true H1 else tu σ H1 QT) : tOr tt tu σ H QT := k
theorem x_not (k : tt σ H fun c H1 => QT (!c) H1) : tNot tt σ H QT := k
theorem x_andV (k : ta σ H fun x H1 => ∃ c, x = .bl c ∧ if c = true then tb σ H1 Q else Q (.bl false) H1) : tAndV ta tb σ H Q := k
theorem x_orV (k : ta σ H fun x H1 => ∃ c, x = .bl c ∧ if c = true then Q (.bl true) H1 else tb σ H1 Q) : tOrV ta tb σ H Q := k
theorem x_notV (k : ta σ H fun x H1 => ∃ c, x = .bl c ∧ Q (.bl (!c)) H1) : tNotV ta σ H Q := k
theorem x_ifE (k : tt σ H fun c H1 => if c = true then ta σ H1 Q else tb σ H1 Q) : tIf tt ta tb σ H Q := k
theorem x_chain {r r' : R2} (k : ta σ H fun x H1 => tb σ H1 fun y H2 => r x y H2 fun z H3 => ∃ k, z = .bl k ∧ (if k = true then tc σ H3 fun w' H4 => r' y w' H4 Q else Q (.bl false) H3)) : tChain r r' ta tb tc σ H Q := k
theorem x_nil (k : QA [] H) : tNil σ H QA := k
theorem x_cons (k : ta σ H fun x H1 => tr σ H1 fun xs H2 => QA (x :: xs) H2) : tCons ta tr σ H QA := k
theorem x_cb {r : List V → Hp → VK → Prop} (k : tr σ H fun vs H1 => r vs H1 Q) : tCB r tr σ H Q := k
theorem x_got (k : tr σ H fun vs H1 => sp vs H1 Q E) : tGot sp E tr σ H Q := k
theorem x_seq (k : t { D with nx := u D } σ H) : tSeq t u D σ H := k
theorem x_asg {g : TG} (k : ta σ H fun x H1 => g x σ H1 D.nx) : tAsg ta g D σ H := k
theorem x_gname {i : Nat} {Q : St → Hp → Prop} (k : Q (σ.set i (some v)) H) : gName i v σ H Q := k
theorem x_gsub {to ti : TE} {ts : TSet} {Q : St → Hp → Prop} (k : to σ H fun o H1 => ti σ H1 fun i H2 => ts o i v H2 fun H3 => Q σ H3) : gSub to ti ts v σ H Q := k
theorem x_ret (k : ta σ H D.rt) : tRet ta D σ H := k
theorem x_retN (k : D.rt .non H) : tRetN D σ H := k
theorem x_if (k : tt σ H fun b H1 => if b = true then t D σ H1 else u D σ H1) : tIfS tt t u D σ H := k
theorem x_next (k : D.nx σ H) : tNext D σ H := k
theorem x_break (k : D.bk σ H) : tBreak D σ H := k
theorem x_cont (k : D.ct σ H) : tCont D σ H := k
theorem x_drop (k : ta σ H fun _ H1 => D.nx σ H1) : tDrop ta D σ H := k
theorem x_aug {i : Nat} {ti : TIp} (h : σ[i]? = some (some x)) (k : ta σ H fun y H1 => ti x y H1 fun z H2 => D.nx (σ.set i (some z)) H2) : tAug i ta ti D σ H := ⟨x, h, k⟩
theorem x_ipI {f : Int → Int → Int} {i j : Int} (k : Q (.int (f i j)) H) : ipI f (.int i) (.int j) H Q := ⟨i, j, rfl, rfl, k⟩
theorem x_slice {r : V → Option Int → Option Int → Hp → VK → Prop} {tl th : TO} (k : ta σ H fun x H1 => tl σ H1 fun l H2 => th σ H2 fun u H3 => r x l u H3 Q) : tSl r ta tl th σ H Q := k
theorem x_noPart {Q : Option Int → Hp → Prop} (k : Q none H) : tNoPart σ H Q := k
theorem x_part {Q : Option Int → Hp → Prop} (k : ta σ H fun x H1 => ∃ i, x = .int i ∧ Q (some i) H1) : tPart ta σ H Q := k
theorem x_int {p : Int → Prop} {i : Int} (k : p i) : ∃ j, V.int i = .int j ∧ p j := ⟨i, rfl, k⟩
theorem x_int1 {i : Int} (k : Q (.int i) H) : rInt1 [.int i] H Q := ⟨i, rfl, k⟩
theorem x_lenS {z : Str} (h : z.length ≤ 100000) (k : Q (.int z.length) H) : rLenS [.str z] H Q := ⟨z, rfl, small h, k⟩
theorem x_lenL {p : Addr} {ys : List V} (h : SqL K H p ys) (k : Q (.int ys.length) H) : rLenL K [.ref p] H Q := ⟨p, ys, rfl, .inl h, k⟩
theorem x_lenT {p : Addr} {ys : List V} (h : H p = some (.tup ys)) (k : Q (.int ys.length) H) : rLenL K [.ref p] H Q := ⟨p, ys, rfl, .inr (sqT h), k⟩
theorem x_ixL {p : Addr} {xs : List V} {i : Int} (h : SqL K H p xs) (e : atI xs i = some v) (k : Q v H) : rIxL K (.ref p) (.int i) H Q := ⟨p, xs, i, v, rfl, rfl, h, e, k⟩
theorem x_ixT {p : Addr} {xs : List V} {i : Int} (h : H p = some (.tup xs)) (e : atI xs i = some v) (k : Q v H) : rIxT K (.ref p) (.int i) H Q := ⟨p, xs, i, v, rfl, rfl, sqT h, e, k⟩
theorem x_ixL' {p : Addr} {xs : List V} {i : Int} (h : SqL K H p xs) (e : atI xs i = some v) (k : Q v H) : rIx K (.ref p) (.int i) H Q := .inl (x_ixL h e k)
theorem x_ixT' {p : Addr} {xs : List V} {i : Int} (h : H p = some (.tup xs)) (e : atI xs i = some v) (k : Q v H) : rIx K (.ref p) (.int i) H Q := .inr (.inl (x_ixT h e k))
theorem x_ixS {z : Str} {i : Int} {c : Nat} (h : z.length ≤ 100000) (e : atI z.cps.toList i = some c) (k : Q (.str ⟨#[c]⟩) H) : rIxS (.str z) (.int i) H Q := ⟨z, i, c, rfl, rfl, small h, e, k⟩
theorem x_inC {c : Nat} {z : Str} (k : Q (.bl (decide (c ∈ z.cps.toList))) H) : rInC (.str ⟨#[c]⟩) (.str z) H Q := ⟨c, z, rfl, rfl, k⟩
theorem x_notInC {c : Nat} {z : Str} (k : Q (.bl (!decide (c ∈ z.cps.toList))) H) : rNotInC (.str ⟨#[c]⟩) (.str z) H Q := ⟨c, z, rfl, rfl, k⟩
theorem x_addS {a b : Str} (h : a.length + b.length ≤ 100000) (k : Q (.str (a ++ b)) H) : rAddS (.str a) (.str b) H Q := ⟨a, b, rfl, rfl, small h, k⟩
theorem x_slS {z : Str} {lo hi : Option Int} (h : z.length ≤ 100000) (k : Q (.str (cutS z lo hi)) H) : rSlS (.str z) lo hi H Q := ⟨z, rfl, small h, k⟩
theorem x_tup {M : List Addr} (k : tr σ H fun xs H1 => xs.length ≤ 100000 ∧ ∀ p H2, H1 p = none → Fr M H1 H2 → H2 p = some (.tup xs) → Q (.ref p) H2)
    (mono : ∀ Q Q' : List V → Hp → Prop, (∀ vs H1, Q vs H1 → Q' vs H1) → tr σ H Q → tr σ H Q') : tTup tr σ H Q :=
  mono _ _ (fun xs H1 q => ⟨small q.1, fun p hp => q.2 p _ hp (Fr.new hp) upd_same⟩) k
theorem x_mk {xs : List V} {H1 : Hp} {o : HO} (M : List Addr) (k : ∀ p H2, H1 p = none → Fr M H1 H2 → H2 p = some o → Q (.ref p) H2) : ∀ p, H1 p = none → Q (.ref p) (upd H1 p o) := fun p hp => k p _ hp (Fr.new hp) upd_same
theorem x_tupQ (k : tr σ H fun xs H1 => NewT xs H1 Q) : tTup tr σ H Q := k
theorem x_lstQ (k : tr σ H fun xs H1 => NewL xs H1 Q) : tLst tr σ H Q := k
theorem x_append {l : Addr} {xs : List V} (h : H l = some (.lst xs)) (hl : xs.length < 100000) (k : Q .non (upd H l (.lst (xs ++ [y])))) : rAppend (.ref l) [y] H Q := ⟨l, xs, y, rfl, rfl, h, smallL (Nat.le_of_lt hl), k⟩
theorem x_app {l : Addr} {xs : List V} (h : H l = some (.lst xs)) (hl : xs.length < 100000) (k : ∀ H', Fr [l] H H' → H' l = some (.lst (xs ++ [y])) → Q .non H') : rAppend (.ref l) [y] H Q := x_append h hl (k _ (Fr.putL h (by simp)) upd_same)
theorem x_bm {T : String} {r : V → List V → Hp → VK → Prop} (k : ta σ H fun x H1 => tyV K T x H1 ∧ tr σ H1 fun xs H2 => r x xs H2 Q) : tBM K T r ta tr σ H Q := k
theorem x_bm0 {T : String} {r : V → List V → Hp → VK → Prop} (k : ta σ H fun x H1 => tyV K T x H1 ∧ r x [] H1 Q) : tBM0 K T r ta σ H Q := k
theorem x_tyL {l : Addr} {xs : List V} {p : Prop} (h : H l = some (.lst xs)) (k : p) : tyV K "list" (.ref l) H ∧ p := ⟨.inl ⟨rfl, xs, sqL h⟩, k⟩
theorem x_setL {l : Addr} {xs : List V} {i : Int} {j : Nat} {Q : Hp → Prop} (h : H l = some (.lst xs)) (hi : ixN xs.length i = some j) (k : Q (upd H l (.lst (xs.set j v)))) : rSetL (.ref l) (.int i) v H Q := ⟨l, xs, i, j, rfl, rfl, h, hi, k⟩
theorem x_dec {p : Prop} [Decidable p] {A B : Prop} (h1 : p → A) (h2 : ¬ p → B) : if decide p = true then A else B := ite2 (fun h => h1 (of_decide_eq_true h)) fun h => h2 fun z => h (decide_eq_true z)
theorem x_ndec {p : Prop} [Decidable p] {A B : Prop} (h1 : ¬ p → A) (h2 : p → B) : if (!decide p) = true then A else B := by
  by_cases z : p
  · rw [decide_eq_true z]; exact iteF (h2 z)
  · rw [decide_eq_false z]; exact iteT (h1 z)
theorem x_decT {p : Prop} [Decidable p] {A B : Prop} (h : p) (k : A) : if decide p = true then A else B := by rw [decide_eq_true h]; exact iteT k
theorem x_decF {p : Prop} [Decidable p] {A B : Prop} (h : ¬ p) (k : B) : if decide p = true then A else B := by rw [decide_eq_false h]; exact iteF k
theorem x_ndecT {p : Prop} [Decidable p] {A B : Prop} (h : ¬ p) (k : A) : if (!decide p) = true then A else B := by rw [decide_eq_false h]; exact iteT k
theorem x_ndecF {p : Prop} [Decidable p] {A B : Prop} (h : p) (k : B) : if (!decide p) = true then A else B := by rw [decide_eq_true h]; exact iteF k
theorem x_T {A B : Prop} (k : A) : if true = true then A else B := iteT k
theorem x_F {A B : Prop} (k : B) : if false = true then A else B := iteF k
theorem x_nT {A B : Prop} (k : A) : if (!false) = true then A else B := iteT k
theorem x_nF {A B : Prop} (k : B) : if (!true) = true then A else B := iteF k
/-- a turn of a while -/
theorem x_turn {W : Nat → St → Hp → Prop} {m : Nat} {tb : TS} {H1 : Hp} (k : tb { D with nx := fun σ' H' => ∃ m', m' < m ∧ W m' σ' H', ct := fun σ' H' => ∃ m', m' < m ∧ W m' σ' H', bk := D.nx } σ H1) :
    ∃ N : St → Hp → Prop, (∀ σ' H', N σ' H' → ∃ m', m' < m ∧ W m' σ' H') ∧ tb { D with nx := N, ct := N, bk := D.nx } σ H1 := ⟨_, fun _ _ h => h, k⟩
theorem x_while {tb : TS} (W : Nat → St → Hp → Prop) (m : Nat) (h0 : W m σ H) (hs : ∀ m σ H, W m σ H → tt σ H fun b H1 => if b = true then ∃ N : St → Hp → Prop, (∀ σ' H', N σ' H' → ∃ m', m' < m ∧ W m' σ' H') ∧ tb { D with nx := N, ct := N, bk := D.nx } σ H1 else D.nx σ H1) :
    tWhile tt tb D σ H := ⟨W, ⟨m, h0⟩, hs⟩
theorem x_forR {wi : TA} {g : TG} {tb : TS} (k : wi σ H fun vs H1 => ∃ j : Int, vs = [.int j] ∧ (0 ≤ j ∧ j ≤ 1000000) ∧ ∃ Pv : Nat → St → Hp → Prop, Pv 0 σ H1 ∧
      (∀ i σ H, i < j.toNat → Pv i σ H → g (.int (i : Int)) σ H fun σ2 H2 => tb { D with nx := Pv (i + 1), ct := Pv (i + 1), bk := D.nx } σ2 H2) ∧ ∀ σ H, Pv j.toNat σ H → D.nx σ H)
    (mono : ∀ Q Q' : List V → Hp → Prop, (∀ vs H1, Q vs H1 → Q' vs H1) → wi σ H Q → wi σ H Q') : tFor (iRng1 wi) g tb D σ H := by
  refine mono _ _ (fun vs H1 q => ?_) k
  obtain ⟨j, rfl, hj, Pv, h0, hs, hd⟩ := q
  refine ⟨j, rfl, by omega, by omega, for_range (lo := 0) (n := j.toNat) Pv h0 (fun i σ H hi p => ?_) hd⟩
  have e0 : (0 : Int) + (i : Int) = (i : Int) := Int.zero_add _
  rw [e0]
  exact hs i σ H hi p
end

section
variable {K : PySem.W.Frag} {σ : L2.St} {H : Hp} {Q : VK}
theorem x_mulR {i j : Int} (h : decide (-(2 ^ 64) < j ∧ j < 2 ^ 64) = true) (k : Q (.int (i * j)) H) : rI CMul (fun i j => V.int (i * j)) (.int i) (.int j) H Q := x_rI (.inr (of_decide_eq_true h)) k
theorem x_mulL {i j : Int} (h : decide (-(2 ^ 64) < i ∧ i < 2 ^ 64) = true) (k : Q (.int (i * j)) H) : rI CMul (fun i j => V.int (i * j)) (.int i) (.int j) H Q := x_rI (.inl (of_decide_eq_true h)) k
theorem x_mod {i j : Int} (h : decide (j ≠ 0) = true) (k : Q (.int (i.fmod j)) H) : rI (fun _ j => j ≠ 0) (fun i j => V.int (i.fmod j)) (.int i) (.int j) H Q := x_rI (C := fun _ j => j ≠ 0) (of_decide_eq_true h) k
theorem x_div {i j : Int} (h : decide (j ≠ 0 ∧ j.natAbs < 1073741824) = true) (k : Q (.int (i.fdiv j)) H) : rI CDivN (fun i j => V.int (i.fdiv j)) (.int i) (.int j) H Q := by
  have z : j ≠ 0 ∧ j.natAbs < 1073741824 := of_decide_eq_true h
  exact x_rI (C := CDivN) z k
end
theorem x_cut {t u : TS} {D : Ends} {σ : L2.St} {H : Hp} (M : L2.St → Hp → Prop) (h : t { D with nx := M } σ H) (k : ∀ σ' H', M σ' H' → u D σ' H') : Evl.tCut t u D σ H := ⟨M, h, k⟩
section
variable {K : PySem.W.Frag} {σ : L2.St} {H : Hp} {D : Ends} {g : TG} {tb : TS} {ta : TA} {te : TE} {R : It → Hp → Prop}
def Loop (J : It) (g : TG) (tb : TS) (D : Ends) (σ : L2.St) (H1 : Hp) : Prop := ∃ W : Nat → Nat → L2.St → Hp → Prop, (∃ m, W 0 m σ H1) ∧ ∀ i m σ H, W i m σ H →
  (J.stop i H ∧ D.nx σ H) ∨ (J.go i H ∧ ∃ N : L2.St → Hp → Prop, (∀ σ' H', N σ' H' → ∃ m', m' < m ∧ W (i + 1) m' σ' H') ∧ ∀ x H', J.yld i H x H' → g x σ H' fun σ2 H2 => tb { D with nx := N, ct := N, bk := D.nx } σ2 H2)
theorem x_for {wi : TI} (k : wi σ H fun J H1 => Loop J g tb D σ H1) : tFor wi g tb D σ H := k
def RngR (R : It → Hp → Prop) (vs : List V) (H1 : Hp) : Prop := ∃ j : Int, vs = [.int j] ∧ -(2 ^ 62) ≤ j ∧ j < 2 ^ 62 ∧ R (Itr 0 j.toNat) H1
def LstR (K : PySem.W.Frag) (R : It → Hp → Prop) (x : V) (H1 : Hp) : Prop := ∃ a, x = .ref a ∧ (∃ xs, SqL K H1 a xs) ∧ R (Itl K a) H1
def TupR (K : PySem.W.Frag) (R : It → Hp → Prop) (x : V) (H1 : Hp) : Prop := ∃ a, x = .ref a ∧ (∃ xs, SqT K H1 a xs) ∧ R (Itt K a) H1
def EnuR (K : PySem.W.Frag) (R : It → Hp → Prop) (vs : List V) (H1 : Hp) : Prop := ∃ a xs, vs = [.ref a] ∧ SqL K H1 a xs ∧ R (Ite K a) H1
theorem x_iR1 (k : ta σ H fun vs H1 => RngR R vs H1) : iRng1 ta σ H R := k
theorem x_rng {n : Nat} (hn : n ≤ 1000000) (k : R (Itr 0 n) H) : RngR R [V.int (n : Int)] H := ⟨_, rfl, by omega, by omega, k⟩
theorem x_rngI {i : Int} (h0 : 0 ≤ i) (hn : i ≤ 1000000) (k : R (Itr 0 i.toNat) H) : RngR R [V.int i] H := ⟨_, rfl, by omega, by omega, k⟩
theorem x_loopN {n : Nat} (Pv : Nat → L2.St → Hp → Prop) (h0 : Pv 0 σ H) (hs : ∀ i σ H, i < n → Pv i σ H → g (.int (i : Int)) σ H fun σ2 H2 => tb { D with nx := Pv (i + 1), ct := Pv (i + 1), bk := D.nx } σ2 H2) (hd : ∀ σ H, Pv n σ H → D.nx σ H) : Loop (Itr 0 n) g tb D σ H :=
  for_range (lo := 0) (n := n) Pv h0 (fun i σ H hi p => by
    have e0 : (0 : Int) + (i : Int) = (i : Int) := Int.zero_add _
    rw [e0]
    exact hs i σ H hi p) hd
theorem x_iL (k : te σ H fun x H1 => LstR K R x H1) : iList K te σ H R := k
theorem x_itL {a : Addr} {xs : List V} (h : SqL K H a xs) (k : R (Itl K a) H) : LstR K R (.ref a) H := ⟨a, rfl, ⟨xs, h⟩, k⟩
theorem x_loopL {a : Addr} (xs : List V) (Pv : Nat → L2.St → Hp → Prop) (h0 : Pv 0 σ H) (hl : ∀ i σ H, i ≤ xs.length → Pv i σ H → SqL K H a xs)
    (hs : ∀ i x σ H, xs[i]? = some x → Pv i σ H → g x σ H fun σ2 H2 => tb { D with nx := Pv (i + 1), ct := Pv (i + 1), bk := D.nx } σ2 H2) (hd : ∀ σ H, Pv xs.length σ H → D.nx σ H) : Loop (Itl K a) g tb D σ H := for_list Pv h0 hl hs hd
theorem x_iT (k : te σ H fun x H1 => TupR K R x H1) : iTup K te σ H R := k
theorem x_itT {a : Addr} {xs : List V} (h : H a = some (.tup xs)) (k : R (Itt K a) H) : TupR K R (.ref a) H := ⟨a, rfl, ⟨xs, sqT h⟩, k⟩
theorem x_loopT {a : Addr} (xs : List V) (Pv : Nat → L2.St → Hp → Prop) (h0 : Pv 0 σ H) (hl : ∀ i σ H, i ≤ xs.length → Pv i σ H → H a = some (.tup xs))
    (hs : ∀ i x σ H, xs[i]? = some x → Pv i σ H → g x σ H fun σ2 H2 => tb { D with nx := Pv (i + 1), ct := Pv (i + 1), bk := D.nx } σ2 H2) (hd : ∀ σ H, Pv xs.length σ H → D.nx σ H) : Loop (Itt K a) g tb D σ H := for_tup Pv h0 (fun i σ H a b => sqT (hl i σ H a b)) hs hd
theorem x_iE (k : ta σ H fun vs H1 => EnuR K R vs H1) : iEnum K ta σ H R := k
theorem x_itE {a : Addr} {xs : List V} (h : SqL K H a xs) (k : R (Ite K a) H) : EnuR K R [.ref a] H := ⟨a, xs, rfl, h, k⟩
/-- for i, x in enumerate(xs): each turn's pair is a new tuple -/
theorem x_loopE {a : Addr} (xs : List V) (Pv : Nat → L2.St → Hp → Prop) (h0 : Pv 0 σ H) (hl : ∀ i σ H, i ≤ xs.length → Pv i σ H → SqL K H a xs)
    (hs : ∀ i x T σ H H', xs[i]? = some x → Pv i σ H → H T = none → Fr [] H H' → H' T = some (.tup [.int (i : Nat), x]) → g (.ref T) σ H' fun σ2 H2 => tb { D with nx := Pv (i + 1), ct := Pv (i + 1), bk := D.nx } σ2 H2) (hd : ∀ σ H, Pv xs.length σ H → D.nx σ H) : Loop (Ite K a) g tb D σ H := by
  refine ⟨fun i m σ H => m = xs.length - i ∧ i ≤ xs.length ∧ Pv i σ H, ⟨_, rfl, Nat.zero_le _, h0⟩, ?_⟩
  rintro i m σ H ⟨rfl, hi, p⟩
  have q := hl i σ H hi p
  by_cases hlt : i < xs.length
  · refine .inr ⟨⟨xs, xs[i], q, List.getElem?_eq_getElem hlt⟩, Pv (i + 1), fun σ' H' p' => ⟨_, by omega, rfl, hlt, p'⟩, ?_⟩
    rintro v H' ⟨T, x, rfl, hT, rfl, hx⟩
    exact hs i x T σ H _ (hx xs q) p hT (Fr.new hT) upd_same
  · have e : i = xs.length := by omega
    subst e
    exact .inl ⟨⟨xs, q, Nat.le_refl _⟩, hd σ H p⟩
theorem x_gtup {n : Nat} {t : TGs} {a : Addr} {xs : List V} {Q : L2.St → Hp → Prop} (h : H a = some (.tup xs)) (hn : xs.length = n) (k : t xs σ H Q) : gTup K n t (.ref a) σ H Q := ⟨a, xs, rfl, sqT h, hn, k⟩
theorem x_gcons {t : TG} {u : TGs} {v : V} {r : List V} {Q : L2.St → Hp → Prop} (k : t v σ H fun σ' H' => u r σ' H' Q) : gCons t u (v :: r) σ H Q := ⟨v, r, rfl, k⟩
theorem x_gnil {Q : L2.St → Hp → Prop} (k : Q σ H) : gNil [] σ H Q := ⟨rfl, k⟩
end
theorem x_newT {xs : List V} {H : Hp} {Q : VK} (hl : Nat.ble xs.length 100000 = true) (k : ∀ p H', H p = none → Fr [] H H' → H' p = some (.tup xs) → Q (.ref p) H') : NewT xs H Q := ⟨small (Nat.le_of_ble_eq_true hl), fun p hp => k p _ hp (Fr.new hp) upd_same⟩
theorem x_newL {xs : List V} {H : Hp} {Q : VK} (hl : Nat.ble xs.length 100000 = true) (k : ∀ p H', H p = none → Fr [] H H' → H' p = some (.lst xs) → Q (.ref p) H') : NewL xs H Q := ⟨small (Nat.le_of_ble_eq_true hl), fun p hp => k p _ hp (Fr.new hp) upd_same⟩
/-! ### the tape of draws -/
def Tape (H : Hp) (t c : Addr) : Prop := ∃ (ns : List Int) (pos rest seed bud : Int), H t = some (.lst [.ref c, .int pos, .int rest, .int seed, .int bud]) ∧ H c = some (.lst (ns.map V.int)) ∧ 0 ≤ pos ∧ 0 ≤ rest ∧ 0 ≤ seed ∧ seed < 18446744073709551557 ∧ c ≠ t
theorem Tape.fr {M : List Addr} {H H' : Hp} {t c : Addr} (h : Tape H t c) (f : Fr M H H') (n1 : t ∉ M := by simp) (n2 : c ∉ M := by simp) : Tape H' t c := by
  obtain ⟨ns, pos, rest, seed, bud, h1, h2, h3⟩ := h
  exact ⟨ns, pos, rest, seed, bud, f.2.1 _ _ h1 n1, f.2.1 _ _ h2 n2, h3⟩
theorem Tape.t {H : Hp} {t c p : Addr} (h : Tape H t c) (n : H p = none) : p ≠ t ∧ p ≠ c := by
  obtain ⟨ns, pos, rest, seed, bud, h1, h2, h3⟩ := h
  exact ⟨fun z => (by rw [z, h1] at n; cases n), fun z => (by rw [z, h2] at n; cases n)⟩
end My
namespace My
open PySem PySem.Spec L2
local macro_rules | `(tactic| walk_at "fact") => `(tactic| first | assumption | exact sqL (by assumption) | exact sqL upd_same | exact Fr.sql (by assumption) (by assumption))
local macro_rules | `(tactic| walk_at "hfact") => `(tactic| first | assumption | exact upd_same)
local macro_rules | `(tactic| walk_at "kit") => `(tactic| first
  | exact kb_bool_tuple | exact kb_bool_list | exact kb_bool_dict | exact kb_bool_bool | exact kb_bool_int | exact kb_bool_str | exact kb_int_tuple | exact kb_int_list | exact kb_int_dict | exact kb_int_bool | exact kb_int_int | exact kb_int_str
  | exact kb_str_tuple | exact kb_str_list | exact kb_str_dict | exact kb_str_bool | exact kb_str_int | exact kb_str_str | exact kb_none_tuple | exact kb_none_list | exact kb_none_dict | exact kb_none_bool | exact kb_none_int | exact kb_none_str
  | exact kb_tuple_tuple | exact kb_tuple_list | exact kb_tuple_dict | exact kb_tuple_bool | exact kb_tuple_int | exact kb_tuple_str | exact kb_list_tuple | exact kb_list_list | exact kb_list_dict | exact kb_list_bool | exact kb_list_int | exact kb_list_str
  | exact kb_dict_tuple | exact kb_dict_list | exact kb_dict_dict)
local macro_rules | `(tactic| walk_at "go1") => `(tactic| first
  | with_reducible refine x_var rfl ?_ | with_reducible refine x_c ?_ | with_reducible refine x_seq ?_ | with_reducible refine x_asg ?_ | with_reducible refine x_gname ?_ | with_reducible refine x_op ?_
  | with_reducible refine x_rI0 ?_ | with_reducible refine x_eqI ?_ | with_reducible refine x_eqS ?_ | with_reducible refine x_eqB ?_ | with_reducible refine x_neI ?_ | with_reducible refine x_neS ?_ | with_reducible refine x_test ?_ | with_reducible refine x_tB ?_ | with_reducible refine x_bl ?_
  | with_reducible refine x_if ?_ | with_reducible refine x_and ?_ | with_reducible refine x_or ?_ | with_reducible refine x_not ?_ | with_reducible refine x_andV ?_ | with_reducible refine x_orV ?_ | with_reducible refine x_notV ?_ | with_reducible refine x_ifE ?_ | with_reducible refine x_chain ?_
  | with_reducible refine x_cons ?_ | with_reducible refine x_nil ?_ | with_reducible refine x_cb ?_ | with_reducible refine x_got ?_ | with_reducible refine x_un ?_ | with_reducible refine x_rU ?_ | with_reducible refine x_int1 ?_
  | with_reducible refine x_ret ?_ | with_reducible refine x_retN ?_ | with_reducible refine x_next ?_ | with_reducible refine x_drop ?_ | with_reducible refine x_aug rfl ?_ | with_reducible refine x_ipI ?_ | with_reducible refine x_gsub ?_
  | with_reducible refine x_break ?_ | with_reducible refine x_cont ?_ | with_reducible refine x_slice ?_ | with_reducible refine x_noPart ?_ | with_reducible refine x_part ?_ | with_reducible refine x_int ?_ | with_reducible refine x_bm ?_ | with_reducible refine x_bm0 ?_
  | with_reducible refine x_tupQ ?_ | with_reducible refine x_lstQ ?_ | with_reducible refine x_inC ?_ | with_reducible refine x_notInC ?_ | with_reducible refine x_T ?_ | with_reducible refine x_F ?_ | with_reducible refine x_nT ?_ | with_reducible refine x_nF ?_
  | with_reducible refine x_for ?_ | with_reducible refine x_iR1 ?_ | with_reducible refine x_iL ?_ | with_reducible refine x_iT ?_ | with_reducible refine x_iE ?_ | with_reducible refine x_gcons ?_ | with_reducible refine x_gnil ?_ | with_reducible refine x_gtup (by walk_at "hfact") rfl ?_
  | with_reducible refine x_raiseBad ?_ | with_reducible refine x_raiseOwn ?_ | with_reducible refine x_isX (by assumption) (by assumption) ?_
  | with_reducible refine x_turn ?_ | with_reducible refine x_mulR (by decide) ?_ | with_reducible refine x_mulL (by decide) ?_ | with_reducible refine x_mod (by decide) ?_ | with_reducible refine x_div (by decide) ?_
  | with_reducible refine x_ixL (by walk_at "fact") rfl ?_ | with_reducible refine x_lenL (by walk_at "fact") ?_ | with_reducible refine x_lenS (by assumption) ?_ | with_reducible refine x_slS (by assumption) ?_ | with_reducible refine x_ixT (by walk_at "hfact") rfl ?_ | with_reducible refine x_ixT' (by walk_at "hfact") rfl ?_ | with_reducible refine x_tyL (by walk_at "hfact") ?_ | with_reducible refine x_setL (by walk_at "hfact") rfl ?_
  | with_reducible refine x_isi tx_bl (by walk_at "kit") ?_ | with_reducible refine x_isi tx_int (by walk_at "kit") ?_ | with_reducible refine x_isi tx_str (by walk_at "kit") ?_ | with_reducible refine x_isi tx_non (by walk_at "kit") ?_ | with_reducible refine x_isi (tx_tup (by walk_at "hfact")) (by walk_at "kit") ?_ | with_reducible refine x_isi (tx_lst (by walk_at "hfact")) (by walk_at "kit") ?_
  | with_reducible refine x_lc ?_ | with_reducible refine x_yes ?_ | with_reducible refine x_gotS ?_ | with_reducible refine x_lenT (by walk_at "hfact") ?_ | with_reducible refine x_tru ?_ | with_reducible refine x_trB ?_)
local macro_rules | `(tactic| walk_at "go") => `(tactic| repeat walk_at "go1")

def topS (i : Nat) : Stmt := PySem.Challenge.pw_oncefolded_k05_tokens.main.body.getD i (.Pass ⟨0, 0, 0, 0⟩)
abbrev s_holds : Stmt := topS 1
abbrev s_BadToken___init : Stmt := inClass (topS 4) 0
abbrev s_end_of : Stmt := topS 11
abbrev s_token_at : Stmt := topS 12
abbrev s_tokens_of : Stmt := topS 13
abbrev s_fold_tokens : Stmt := topS 14
abbrev s_present : Stmt := topS 15
abbrev s_law_like : Stmt := topS 17
abbrev s_law_mix : Stmt := topS 18
abbrev s_law_tape : Stmt := topS 19
abbrev s_law_take : Stmt := topS 20
abbrev s_law_diagram : Stmt := topS 21
abbrev s_law_same : Stmt := topS 22
abbrev s_law_run_of : Stmt := topS 23
abbrev s_law_tokens : Stmt := topS 24
abbrev s_law_fold_tokens : Stmt := topS 25
abbrev s_law_text : Stmt := topS 26
abbrev s_law_wrong : Stmt := topS 27
abbrev s_law_cut : Stmt := topS 28
abbrev s_law_told : Stmt := topS 29
abbrev s_law_due : Stmt := topS 30
abbrev s_law_at : Stmt := topS 31
abbrev s_law : Stmt := topS 32
structure Txt (K : PySem.W.Frag) (mg : Str → Option Value) : Prop where
  n_len : mg "len" = none
  n_int : mg "int" = none
  n_list : mg "list" = none
  n_range : mg "range" = none
  n_isinstance : mg "isinstance" = none
  n_tuple : mg "tuple" = none
  n_all : mg "all" = none
  n_dict : mg "dict" = none
  n_bool : mg "bool" = none
  n_str : mg "str" = none
  n_enumerate : mg "enumerate" = none
  g_LETTERS : ∃ u, mg "LETTERS" = some u ∧ RelV (.str "abcdefghijklmnopqrstuvwxyzABCDEFGHIJKLMNOPQRSTUVWXYZ") u
  g_DIGITS : ∃ u, mg "DIGITS" = some u ∧ RelV (.str "0123456789") u
  g_MARKS : ∃ u, mg "MARKS" = some u ∧ RelV (.str "+-*/(){};,=<>!:.?&|") u
  g_MAX_TOKENS : ∃ u, mg "MAX_TOKENS" = some u ∧ RelV (.int 24) u
section
variable {P : Program} {w : World} {K : PySem.W.Frag} {mg : Str → Option Value} {base : Heap} {f : Addr} {fd : FuncData} {CX : CXT}
theorem sc_law_mix : FnScope ["number"] ["number"] (defScope s_law_mix) := ⟨rfl, rfl, rfl, by decide +kernel, rfl, by decide +kernel, by decide +kernel⟩
theorem sc_law_take : FnScope ["tape", "many", "cell", "digit"] ["tape", "many"] (defScope s_law_take) := ⟨rfl, rfl, rfl, by decide +kernel, rfl, by decide +kernel, by decide +kernel⟩
theorem sc_law_tape : FnScope ["script", "budget"] ["script", "budget"] (defScope s_law_tape) := ⟨rfl, rfl, rfl, by decide +kernel, rfl, by decide +kernel, by decide +kernel⟩
theorem sc_end_of : FnScope ["text", "begin", "signs", "end"] ["text", "begin", "signs"] (defScope s_end_of) := ⟨rfl, rfl, rfl, by decide +kernel, rfl, by decide +kernel, by decide +kernel⟩
theorem sc_law_run_of : FnScope ["text", "at", "signs", "over"] ["text", "at", "signs"] (defScope s_law_run_of) := ⟨rfl, rfl, rfl, by decide +kernel, rfl, by decide +kernel, by decide +kernel⟩
theorem sc_law_wrong : FnScope ["text", "signs", "at"] ["text"] (defScope s_law_wrong) := ⟨rfl, rfl, rfl, by decide +kernel, rfl, by decide +kernel, by decide +kernel⟩
/-! ### the draws -/
def spMix : Sp := fun vs H Q _ => ∃ n : Int, vs = [.int n] ∧ ∀ m : Int, 0 ≤ m → m < 18446744073709551557 → Q (.int m) H
theorem fmod_lo (i : Int) {j : Int} (h : 0 < j) : 0 ≤ i.fmod j := Int.fmod_nonneg_of_pos _ h
theorem fmod_hi (i : Int) {j : Int} (h : 0 < j) : i.fmod j < j := Int.fmod_lt_of_pos _ h
theorem natAbs_lt {i : Int} {n : Nat} (h0 : 0 ≤ i) (h : i < (n : Int)) : i.natAbs < n := by omega
theorem ok_mix (T : Txt K mg) (F : Fun K "_law_mix" "_law_mix" s_law_mix f fd) : FnOk P w K mg base CX0 1 f fd ["number"] spMix := by
  refine F.ok sc_law_mix (fun vs H Q E h => ?_) (fun cdv A outer s H vs Q E hr h => ?_)
  · obtain ⟨n, rfl, _⟩ := h
    rfl
  · obtain ⟨n, rfl, k⟩ := h
    refine ⟨_, (pss_cons (ps_set (i := 0) sc_law_mix.nd rfl (Or.inl rfl) (pe_op op_modN (pe_callTy y_int1 (by rfl) T.n_int PyProof.Rows.boot_int (pa_cons (pe_op op_add (pe_op op_mul (pv 0) pe_int) pe_int) pa_nil)) pe_int))
      (pss_one (ps_ret (pe_op op_modN (pe_callTy y_int1 (by rfl) T.n_int PyProof.Rows.boot_int (pa_cons (pe_op op_add (pe_op op_fdivW (pe_op op_mulW (pv 0) (pv 0)) pe_int) (pe_op op_mul (pv 0) pe_int)) pa_nil)) pe_int)))), ?_⟩
    walk_at "go"
    have a0 := fmod_lo (n * 6364136223846793005 + 1442695040888963407) (j := 18446744073709551616) (by decide)
    have a1 := fmod_hi (n * 6364136223846793005 + 1442695040888963407) (j := 18446744073709551616) (by decide)
    generalize (n * 6364136223846793005 + 1442695040888963407).fmod 18446744073709551616 = m at a0 a1
    have b : m.natAbs < 2 ^ 64 := natAbs_lt a0 a1
    refine x_rI (wide_mul b b (by decide) (by decide) (by decide)) ?_
    walk_at "go"
    refine x_rI (wide_div (by decide) (show (4294967296 : Int).natAbs < 2 ^ 64 by decide) (by decide) (by decide)) ?_
    walk_at "go"
    exact k _ (fmod_lo _ (by decide)) (fmod_hi _ (by decide))
def spTake : Sp := fun vs H Q _ => ∃ (t c : Addr) (many : Int), vs = [.ref t, .int many] ∧ Tape H t c ∧ 0 < many ∧ many ≤ 1000000 ∧ ∀ (d : Int) (H' : Hp), 0 ≤ d → d < many → Fr [t] H H' → Tape H' t c → Q (.int d) H'
theorem ok_take (T : Txt K mg) (g_law_mix : Got P w K mg base CX0 "_law_mix" 1 ["number"] spMix) (F : Fun K "_law_take" "_law_take" s_law_take f fd) : FnOk P w K mg base CX0 2 f fd ["tape", "many"] spTake := by
  refine F.ok sc_law_take (fun vs H Q E h => ?_) (fun cdv A outer s H vs Q E hr h => ?_)
  · obtain ⟨t, c, m, rfl, _⟩ := h
    rfl
  · obtain ⟨t, c, m, rfl, ⟨ns, pos, rest, seed, bud, hT, hC, p0, r0, s0, s1, ct⟩, m0, m1, k⟩ := h
    refine ⟨_, (Evl.pss_cut (ps_if (pt_cmpR op_lt (pe_ix ix_list (pv 0) pe_int (fun _ _ => rfl)) (pv 1) (nomark _)) (pss_one (ps_if (pt_cmpR op_lt (pe_ix ix_list (pv 0) pe_int (fun _ _ => rfl)) (pe_callB y_lenL (by rfl) T.n_len PySem.boot_len (pa_cons (pe_ix ix_list (pv 0) pe_int (fun _ _ => rfl)) pa_nil)) (nomark _)) (pss_cons (ps_set (i := 2) sc_law_take.nd rfl (Or.inl rfl) (pe_ix ix_list (pe_ix ix_list (pv 0) pe_int (fun _ _ => rfl)) (pe_ix ix_list (pv 0) pe_int (fun _ _ => rfl)) (fun _ _ => rfl)))
      (Evl.pss_cut (ps_set (i := 2) sc_law_take.nd rfl (Or.inl rfl) (pe_ifExp (pt_cmpR op_ge (pv 2) pe_int (nomark _)) (pe_op op_mul pe_int (pv 2)) (pe_op op_sub (pe_op op_mul (pe_un un_neg pe_int) (pv 2)) pe_int)))
      (pss_cons (ps_asg (pe_op op_add (pe_ix ix_list (pv 0) pe_int (fun _ _ => rfl)) pe_int) (pg_sub (pv 0) pe_int set_list))
      (pss_cons (ps_asg (pe_got g_law_mix (hr.mono (by first | decide | omega)) rfl (pa_cons (pe_op op_add (pe_ix ix_list (pv 0) pe_int (fun _ _ => rfl)) (pv 2)) pa_nil)) (pg_sub (pv 0) pe_int set_list))
      (pss_one (ps_asg (pe_ifExp (pt_cmpR op_ge (pv 2) (pe_op op_pow pe_int pe_int) (nomark _)) (pv 2) (pe_got g_law_mix (hr.mono (by first | decide | omega)) rfl (pa_cons (pe_got g_law_mix (hr.mono (by first | decide | omega)) rfl (pa_cons (pv 2) pa_nil)) pa_nil))) (pg_sub (pv 0) pe_int set_list))))))) (pss_cons (ps_asg (pe_got g_law_mix (hr.mono (by first | decide | omega)) rfl (pa_cons (pe_op op_add (pe_ix ix_list (pv 0) pe_int (fun _ _ => rfl)) pe_int) pa_nil)) (pg_sub (pv 0) pe_int set_list))
      (pss_one (ps_asg (pe_ix ix_list (pv 0) pe_int (fun _ _ => rfl)) (pg_sub (pv 0) pe_int set_list)))))) pss_nil)
      (pss_cons (ps_set (i := 3) sc_law_take.nd rfl (Or.inl rfl) (pe_op op_modN (pe_callTy y_int1 (by rfl) T.n_int PyProof.Rows.boot_int (pa_cons (pe_ix ix_list (pv 0) pe_int (fun _ _ => rfl)) pa_nil)) (pv 1)))
      (pss_cons (ps_asg (pe_op op_fdivN (pe_ix ix_list (pv 0) pe_int (fun _ _ => rfl)) (pv 1)) (pg_sub (pv 0) pe_int set_list))
      (pss_one (ps_ret (pv 3)))))), ?_⟩
    walk_at "go"
    refine x_cut (fun σ' H' => ∃ (y : Option V) (pos' rest' seed' : Int), σ' = [some (.ref t), some (.int m), y, none] ∧ Fr [t] H H' ∧ H' t = some (.lst [.ref c, .int pos', .int rest', .int seed', .int bud]) ∧ 0 ≤ pos' ∧ 0 ≤ rest' ∧ 0 ≤ seed' ∧ seed' < 18446744073709551557) ?_ ?_
    · walk_at "go"
      refine x_dec (fun h => ?_) (fun h => ?_)
      · walk_at "go"
        refine x_dec (fun h => ?_) (fun h => ?_)
        · rw [List.length_map] at h
          have hp : pos.toNat < ns.length := by omega
          obtain ⟨z, hz⟩ : ∃ z, ns[pos.toNat]? = some z := ⟨_, List.getElem?_eq_getElem hp⟩
          have at1 : atI (ns.map V.int) pos = some (.int z) := at_of (j := pos.toNat) (by omega) (by rw [List.getElem?_map, hz]; rfl)
          walk_at "go"
          refine x_ixL (sqL hC) at1 ?_
          walk_at "go"
          refine x_cut (fun σ' H' => ∃ y : Int, σ' = [some (.ref t), some (.int m), some (.int y), none] ∧ 0 ≤ y ∧ H' = H) ?_ ?_
          · walk_at "go"
            refine x_dec (fun h => ?_) (fun h => ?_)
            · walk_at "go"
              exact ⟨2 * z, rfl, by omega, rfl⟩
            · walk_at "go"
              exact ⟨-2 * z - 1, rfl, by omega, rfl⟩
          · rintro σ' H' ⟨y, rfl, hy, rfl⟩
            walk_at "go"
            refine ⟨_, rfl, fun r1 b0 b1 => ?_⟩
            walk_at "go"
            refine x_rI (C := CPow) ⟨by decide, by decide, by decide⟩ ?_
            walk_at "go"
            refine x_dec (fun h => ?_) (fun h => ?_)
            · walk_at "go"
              refine ⟨_, _, _, _, rfl, ((Fr.putL hT (by simp)).trans (Fr.putL upd_same (by simp))).trans (Fr.putL upd_same (by simp)), upd_same, ?_, hy, b0, b1⟩
              omega
            · walk_at "go"
              refine ⟨_, rfl, fun r2 c0 c1 => ?_⟩
              walk_at "go"
              refine ⟨_, rfl, fun r3 d0 d1 => ?_⟩
              walk_at "go"
              refine ⟨_, _, _, _, rfl, ((Fr.putL hT (by simp)).trans (Fr.putL upd_same (by simp))).trans (Fr.putL upd_same (by simp)), upd_same, ?_, d0, b0, b1⟩
              omega
        · walk_at "go"
          refine ⟨_, rfl, fun r1 b0 b1 => ?_⟩
          walk_at "go"
          exact ⟨_, _, _, _, rfl, (Fr.putL hT (by simp)).trans (Fr.putL upd_same (by simp)), upd_same, p0, b0, b0, b1⟩
      · walk_at "go"
        exact ⟨_, _, _, _, rfl, .refl _, hT, p0, r0, s0, s1⟩
    · rintro σ' H1 ⟨y, pos', rest', seed', rfl, fr, hT', p0', r0', s0', s1'⟩
      walk_at "go"
      refine x_rI (C := fun _ j => j ≠ 0) (by omega) ?_
      walk_at "go"
      refine x_rI (C := CDivN) (by unfold CDivN; omega) ?_
      walk_at "go"
      refine k _ _ (fmod_lo _ m0) (fmod_hi _ m0) (fr.trans (Fr.putL hT' (by simp))) ⟨ns, _, _, _, _, upd_same, ?_, p0', ?_, s0', s1', ct⟩
      · rw [upd_ne ct]
        exact fr.lst hC (by simpa using ct)
      · exact Int.fdiv_nonneg r0' (by omega)
def spTape (K : PySem.W.Frag) : Sp := fun vs H Q _ => ∃ (a : Addr) (ns : List Int) (b : Int), vs = [.ref a, .int b] ∧ SqL K H a (ns.map V.int) ∧ ∀ (t c : Addr) (H' : Hp), H t = none → Fr [] H H' → Tape H' t c → Q (.ref t) H'
theorem ok_tape (T : Txt K mg) (F : Fun K "_law_tape" "_law_tape" s_law_tape f fd) : FnOk P w K mg base CX0 1 f fd ["script", "budget"] (spTape K) := by
  refine F.ok sc_law_tape (fun vs H Q E h => ?_) (fun cdv A outer s H vs Q E hr h => ?_)
  · obtain ⟨a, ns, b, rfl, _⟩ := h
    rfl
  · obtain ⟨a, ns, b, rfl, hS, k⟩ := h
    refine ⟨_, (pss_one (ps_ret (pe_lst (pa_cons (pe_callTy y_listOf (by rfl) T.n_list PyProof.Rows.boot_list (pa_cons (pv 0) pa_nil)) (pa_cons pe_int (pa_cons pe_int (pa_cons pe_int (pa_cons (pv 1) pa_nil)))))))), ?_⟩
    walk_at "go"
    refine ⟨a, _, rfl, .inl hS, fun c hc => ?_⟩
    walk_at "go"
    refine ⟨by show 5 ≤ sizeLine; decide, fun t ht => ?_⟩
    have ct : c ≠ t := fun z => by
      rw [← z, upd_same] at ht
      cases ht
    have ht0 : H t = none := by
      rw [upd_ne ct.symm] at ht
      exact ht
    exact k t c _ ht0 ((Fr.new hc).trans (Fr.new ht)) ⟨ns, 0, 0, 1, b, upd_same, by rw [upd_ne ct, upd_same], by decide, by decide, by decide, by decide, ct⟩
/-! ### texts: codes -/
abbrev cs (z : Str) : List Nat := z.cps.toList
/-- how many codes ahead of the first one that is not among some signs -/
def runLen (ok : Nat → Bool) : List Nat → Nat
  | [] => 0
  | c :: r => if ok c then runLen ok r + 1 else 0
def spRun : Sp := fun vs H Q _ => ∃ (z : Str) (i : Nat) (g : Str), vs = [.str z, .int (i : Int), .str g] ∧ i ≤ z.length ∧ z.length ≤ 100000 ∧ Q (.int ((i + runLen (fun c => decide (c ∈ cs g)) ((cs z).drop i) : Nat) : Int)) H
theorem cs_len (z : Str) : (cs z).length = z.length := by simp [cs, PySem.Str.length]
theorem runLen_le (ok : Nat → Bool) : ∀ l : List Nat, runLen ok l ≤ l.length
  | [] => Nat.le_refl _
  | c :: r => by
    unfold runLen
    split
    · exact Nat.succ_le_succ (runLen_le ok r)
    · exact Nat.zero_le _
theorem at_cs {z : Str} {j : Nat} (h : j < z.length) : ∃ c, (cs z)[j]? = some c ∧ (cs z).drop j = c :: (cs z).drop (j + 1) := by
  rw [← cs_len] at h
  exact ⟨(cs z)[j], List.getElem?_eq_getElem h, List.drop_eq_getElem_cons h⟩
theorem ok_run_of (T : Txt K mg) (F : Fun K "_law_run_of" "_law_run_of" s_law_run_of f fd) : FnOk P w K mg base CX0 1 f fd ["text", "at", "signs"] spRun := by
  refine F.ok sc_law_run_of (fun vs H Q E h => ?_) (fun cdv A outer s H vs Q E hr h => ?_)
  · obtain ⟨z, i, g, rfl, _⟩ := h
    rfl
  · obtain ⟨z, i, g, rfl, hi, hz, k⟩ := h
    refine ⟨_, (pss_cons (ps_set (i := 3) sc_law_run_of.nd rfl (Or.inl rfl) (pv 1))
      (pss_cons (ps_while PassesOwn.never (PW.pt (pw_and (pt_cmpR op_lt (pv 3) (pe_callB y_lenS (by rfl) T.n_len PySem.boot_len (pa_cons (pv 0) pa_nil)) (nomark _)) (pw_and1 (pt_cmpR y_inC (pe_ix ix_str (pv 0) (pv 3) (fun _ _ => rfl)) (pv 2) (by rfl))))) (pss_one (ps_set (i := 3) sc_law_run_of.nd rfl (Or.inl rfl) (pe_op op_add (pv 3) pe_int))))
      (pss_one (ps_ret (pv 3))))), ?_⟩
    walk_at "go"
    refine x_while (fun m σ' H' => ∃ j : Nat, m = z.length - j ∧ i ≤ j ∧ j ≤ z.length ∧ σ' = [some (.str z), some (.int (i : Int)), some (.str g), some (.int (j : Int))] ∧ H' = H ∧
      i + runLen (fun c => decide (c ∈ cs g)) ((cs z).drop i) = j + runLen (fun c => decide (c ∈ cs g)) ((cs z).drop j)) _ ⟨i, rfl, Nat.le_refl _, hi, rfl, rfl, rfl⟩ ?_
    rintro m σ' H' ⟨j, rfl, ij, jz, rfl, rfl, e⟩
    walk_at "go"
    refine x_dec (fun h => ?_) (fun h => ?_)
    · obtain ⟨c, hc, hd⟩ := at_cs (z := z) (j := j) (by omega)
      walk_at "go"
      refine x_ixS hz (atI_nat hc) ?_
      walk_at "go"
      refine x_dec (fun h2 => ?_) (fun h2 => ?_)
      · walk_at "go"
        refine ⟨_, ?_, j + 1, rfl, by omega, by omega, rfl, rfl, ?_⟩
        · omega
        · rw [e, hd]
          show j + (if decide (c ∈ cs g) = true then _ else _) = _
          rw [decide_eq_true h2, if_pos rfl]
          omega
      · walk_at "go"
        have e2 : runLen (fun c => decide (c ∈ cs g)) ((cs z).drop j) = 0 := by
          rw [hd]
          show (if decide (c ∈ cs g) = true then _ else _) = _
          rw [decide_eq_false h2, if_neg (by decide)]
        rw [e, e2] at k
        exact k
    · walk_at "go"
      have e2 : (cs z).drop j = [] := List.drop_eq_nil_of_le (by rw [cs_len]; omega)
      rw [e, e2] at k
      exact k
theorem ok_end_of (T : Txt K mg) (F : Fun K "end_of" "end_of" s_end_of f fd) : FnOk P w K mg base CX0 1 f fd ["text", "begin", "signs"] spRun := by
  refine F.ok sc_end_of (fun vs H Q E h => ?_) (fun cdv A outer s H vs Q E hr h => ?_)
  · obtain ⟨z, i, g, rfl, _⟩ := h
    rfl
  · obtain ⟨z, i, g, rfl, hi, hz, k⟩ := h
    refine ⟨_, (pss_cons (ps_set (i := 3) sc_end_of.nd rfl (Or.inl rfl) (pv 1))
      (pss_cons (ps_while PassesOwn.never (PW.pt (pw_and (pt_cmpR op_lt (pv 3) (pe_callB y_lenS (by rfl) T.n_len PySem.boot_len (pa_cons (pv 0) pa_nil)) (nomark _)) (pw_and1 (pt_cmpR y_inC (pe_ix ix_str (pv 0) (pv 3) (fun _ _ => rfl)) (pv 2) (by rfl))))) (pss_one (ps_aug (i := 3) sc_end_of.nd rfl (Or.inl rfl) pe_int ip_add)))
      (pss_one (ps_ret (pv 3))))), ?_⟩
    walk_at "go"
    refine x_while (fun m σ' H' => ∃ j : Nat, m = z.length - j ∧ i ≤ j ∧ j ≤ z.length ∧ σ' = [some (.str z), some (.int (i : Int)), some (.str g), some (.int (j : Int))] ∧ H' = H ∧
      i + runLen (fun c => decide (c ∈ cs g)) ((cs z).drop i) = j + runLen (fun c => decide (c ∈ cs g)) ((cs z).drop j)) _ ⟨i, rfl, Nat.le_refl _, hi, rfl, rfl, rfl⟩ ?_
    rintro m σ' H' ⟨j, rfl, ij, jz, rfl, rfl, e⟩
    walk_at "go"
    refine x_dec (fun h => ?_) (fun h => ?_)
    · obtain ⟨c, hc, hd⟩ := at_cs (z := z) (j := j) (by omega)
      walk_at "go"
      refine x_ixS hz (atI_nat hc) ?_
      walk_at "go"
      refine x_dec (fun h2 => ?_) (fun h2 => ?_)
      · walk_at "go"
        refine ⟨_, ?_, j + 1, rfl, by omega, by omega, rfl, rfl, ?_⟩
        · omega
        · rw [e, hd]
          show j + (if decide (c ∈ cs g) = true then _ else _) = _
          rw [decide_eq_true h2, if_pos rfl]
          omega
      · walk_at "go"
        have e2 : runLen (fun c => decide (c ∈ cs g)) ((cs z).drop j) = 0 := by
          rw [hd]
          show (if decide (c ∈ cs g) = true then _ else _) = _
          rw [decide_eq_false h2, if_neg (by decide)]
        rw [e, e2] at k
        exact k
    · walk_at "go"
      have e2 : (cs z).drop j = [] := List.drop_eq_nil_of_le (by rw [cs_len]; omega)
      rw [e, e2] at k
      exact k
end
end My
namespace My
open PySem PySem.Spec L2
/-! ### isinstance -/
theorem kb_bool_tuple : kitB "bool" "tuple" = some false := by decide +kernel
theorem kb_bool_list : kitB "bool" "list" = some false := by decide +kernel
theorem kb_bool_dict : kitB "bool" "dict" = some false := by decide +kernel
theorem kb_bool_bool : kitB "bool" "bool" = some true := by decide +kernel
theorem kb_bool_int : kitB "bool" "int" = some true := by decide +kernel
theorem kb_bool_str : kitB "bool" "str" = some false := by decide +kernel
theorem kb_int_tuple : kitB "int" "tuple" = some false := by decide +kernel
theorem kb_int_list : kitB "int" "list" = some false := by decide +kernel
theorem kb_int_dict : kitB "int" "dict" = some false := by decide +kernel
theorem kb_int_bool : kitB "int" "bool" = some false := by decide +kernel
theorem kb_int_int : kitB "int" "int" = some true := by decide +kernel
theorem kb_int_str : kitB "int" "str" = some false := by decide +kernel
theorem kb_str_tuple : kitB "str" "tuple" = some false := by decide +kernel
theorem kb_str_list : kitB "str" "list" = some false := by decide +kernel
theorem kb_str_dict : kitB "str" "dict" = some false := by decide +kernel
theorem kb_str_bool : kitB "str" "bool" = some false := by decide +kernel
theorem kb_str_int : kitB "str" "int" = some false := by decide +kernel
theorem kb_str_str : kitB "str" "str" = some true := by decide +kernel
theorem kb_none_tuple : kitB "NoneType" "tuple" = some false := by decide +kernel
theorem kb_none_list : kitB "NoneType" "list" = some false := by decide +kernel
theorem kb_none_dict : kitB "NoneType" "dict" = some false := by decide +kernel
theorem kb_none_bool : kitB "NoneType" "bool" = some false := by decide +kernel
theorem kb_none_int : kitB "NoneType" "int" = some false := by decide +kernel
theorem kb_none_str : kitB "NoneType" "str" = some false := by decide +kernel
theorem kb_tuple_tuple : kitB "tuple" "tuple" = some true := by decide +kernel
theorem kb_tuple_list : kitB "tuple" "list" = some false := by decide +kernel
theorem kb_tuple_dict : kitB "tuple" "dict" = some false := by decide +kernel
theorem kb_tuple_bool : kitB "tuple" "bool" = some false := by decide +kernel
theorem kb_tuple_int : kitB "tuple" "int" = some false := by decide +kernel
theorem kb_tuple_str : kitB "tuple" "str" = some false := by decide +kernel
theorem kb_list_tuple : kitB "list" "tuple" = some false := by decide +kernel
theorem kb_list_list : kitB "list" "list" = some true := by decide +kernel
theorem kb_list_dict : kitB "list" "dict" = some false := by decide +kernel
theorem kb_list_bool : kitB "list" "bool" = some false := by decide +kernel
theorem kb_list_int : kitB "list" "int" = some false := by decide +kernel
theorem kb_list_str : kitB "list" "str" = some false := by decide +kernel
theorem kb_dict_tuple : kitB "dict" "tuple" = some false := by decide +kernel
theorem kb_dict_list : kitB "dict" "list" = some false := by decide +kernel
theorem kb_dict_dict : kitB "dict" "dict" = some true := by decide +kernel
section
variable {K : PySem.W.Frag} {σ : L2.St} {H H1 : Hp} {Q : VK} {x : V} {t u : String}
theorem x_isi {r : Bool} (tx : TyX K H x (.type t)) (h : kitB t u = some r) (k : Q (.bl r) H) : rIsi K [x, .ty u] H Q := ⟨x, .ty u, .type t, .type u, r, rfl, .ty u, tx, kit_ty h, k⟩
theorem tx_bl {b : Bool} : TyX K H (.bl b) (.type "bool") := .base (.bl b)
theorem tx_int {i : Int} : TyX K H (.int i) (.type "int") := .base (.int i)
theorem tx_str {z : Str} : TyX K H (.str z) (.type "str") := .base (.str z)
theorem tx_non : TyX K H .non (.type "NoneType") := .base .non
theorem tx_tup {a : Addr} {xs : List V} (h : H a = some (.tup xs)) : TyX K H (.ref a) (.type "tuple") := .base (.tup h)
theorem tx_lst {a : Addr} {xs : List V} (h : H a = some (.lst xs)) : TyX K H (.ref a) (.type "list") := .base (.lst h)
/-! ### comprehensions -/
def LcR (J : It) (g : TG) (tt : TT) (te : TE) (vs : List Nat) (Q : VK) (σ : L2.St) (H1 : Hp) : Prop := ∀ D, H1 D = none → ∃ W : Nat → Nat → Hp → Prop, (∃ m, W 0 m (upd H1 D (.lst []))) ∧ ∀ i m H, W i m H →
  (J.stop i H ∧ Q (.ref D) H) ∨ (J.go i H ∧ ∃ Nx : Hp → Prop, (∀ H', Nx H' → ∃ m', m' < m ∧ W (i + 1) m' H') ∧ ∀ x H', J.yld i H x H' → g x (wipe σ vs) H' fun σ2 H2 => wipe σ2 vs = wipe σ vs ∧ tt σ2 H2 fun b H3 =>
    if b = true then te σ2 H3 fun y H4 => ∃ acc, H4 D = some (.lst acc) ∧ acc.length < sizeLine ∧ Nx (upd H4 D (.lst (acc ++ [y]))) else Nx H3)
theorem x_lc {wi : TI} {g : TG} {tt : TT} {te : TE} {vs : List Nat} (k : wi σ H fun J H1 => LcR J g tt te vs Q σ H1) : tLc wi g tt te vs σ H Q := k
/-- between two turns: the list at D so far -/
def LP (D : Addr) (P : Nat → List V → Hp → Prop) (i : Nat) (H : Hp) : Prop := ∃ ys, H D = some (.lst ys) ∧ ys.length ≤ i ∧ P i ys H
def PutR (D : Addr) (P : Nat → List V → Hp → Prop) (i : Nat) : VK := fun y H4 => ∃ acc, H4 D = some (.lst acc) ∧ acc.length < sizeLine ∧ LP D P (i + 1) (upd H4 D (.lst (acc ++ [y])))
theorem x_put {D : Addr} {P : Nat → List V → Hp → Prop} {i : Nat} {ys : List V} {y : V} {H4 : Hp} (h : H4 D = some (.lst ys)) (hl : ys.length ≤ i) (hi : i < 100000) (k : ∀ H5, Fr [D] H4 H5 → H5 D = some (.lst (ys ++ [y])) → P (i + 1) (ys ++ [y]) H5) : PutR D P i y H4 :=
  ⟨ys, h, smallL (by omega), ys ++ [y], upd_same, by rw [List.length_append, List.length_singleton]; omega, k _ (Fr.putL h (by simp)) upd_same⟩
/-- [e for k in range(n) if ..] -/
theorem x_lcN {n : Nat} {ix : Nat} {tt : TT} {te : TE} {vs : List Nat} (P : Addr → Nat → List V → Hp → Prop) (hw : ∀ x, wipe ((wipe σ vs).set ix (some x)) vs = wipe σ vs) (h0 : ∀ D H2, H1 D = none → Fr [] H1 H2 → H2 D = some (.lst []) → P D 0 [] H2)
    (hs : ∀ D i ys H, H1 D = none → i < n → H D = some (.lst ys) → ys.length ≤ i → P D i ys H → tt ((wipe σ vs).set ix (some (.int (i : Int)))) H fun b H3 => if b = true then te ((wipe σ vs).set ix (some (.int (i : Int)))) H3 (PutR D (P D) i) else LP D (P D) (i + 1) H3)
    (hd : ∀ D ys H, H1 D = none → P D n ys H → H D = some (.lst ys) → ys.length ≤ n → Q (.ref D) H) : LcR (Itr 0 n) (gName ix) tt te vs Q σ H1 := by
  intro D hD
  refine lc_range (lo := 0) (n := n) (LP D (P D)) ⟨[], upd_same, Nat.le_refl _, h0 D _ hD (Fr.new hD) upd_same⟩ ?_ ?_
  · rintro i H hi ⟨ys, hl, le, p⟩
    have e0 : (0 : Int) + (i : Int) = (i : Int) := Int.zero_add _
    rw [e0]
    exact ⟨hw _, hs D i ys H hD hi hl le p⟩
  · rintro H ⟨ys, hl, le, p⟩
    exact hd D ys H hD p hl le
/-- [e for x in xs if ..] -/
theorem x_lcL {a : Addr} (xs : List V) {ix : Nat} {tt : TT} {te : TE} {vs : List Nat} (P : Addr → Nat → List V → Hp → Prop) (hw : ∀ x, wipe ((wipe σ vs).set ix (some x)) vs = wipe σ vs) (h0 : ∀ D H2, H1 D = none → Fr [] H1 H2 → H2 D = some (.lst []) → P D 0 [] H2)
    (hx : ∀ D i ys H, H1 D = none → i ≤ xs.length → P D i ys H → H D = some (.lst ys) → SqL K H a xs)
    (hs : ∀ D i x ys H, H1 D = none → xs[i]? = some x → H D = some (.lst ys) → ys.length ≤ i → P D i ys H → tt ((wipe σ vs).set ix (some x)) H fun b H3 => if b = true then te ((wipe σ vs).set ix (some x)) H3 (PutR D (P D) i) else LP D (P D) (i + 1) H3)
    (hd : ∀ D ys H, H1 D = none → P D xs.length ys H → H D = some (.lst ys) → ys.length ≤ xs.length → Q (.ref D) H) : LcR (Itl K a) (gName ix) tt te vs Q σ H1 := by
  intro D hD
  refine lc_list (xs := xs) (LP D (P D)) ⟨[], upd_same, Nat.le_refl _, h0 D _ hD (Fr.new hD) upd_same⟩ ?_ ?_ ?_
  · rintro i H hi ⟨ys, hl, le, p⟩
    exact hx D i ys H hD hi p hl
  · rintro i x H hi ⟨ys, hl, le, p⟩
    exact ⟨hw _, hs D i x ys H hD hi hl le p⟩
  · rintro H ⟨ys, hl, le, p⟩
    exact hd D ys H hD p hl le
/-- [e for i, x in enumerate(xs) if ..] -/
theorem x_lcE {a : Addr} (xs : List V) {g : TG} {tt : TT} {te : TE} {vs : List Nat} (P : Addr → Nat → List V → Hp → Prop) (h0 : ∀ D H2, H1 D = none → Fr [] H1 H2 → H2 D = some (.lst []) → P D 0 [] H2)
    (hx : ∀ D i ys H, H1 D = none → i ≤ xs.length → P D i ys H → H D = some (.lst ys) → SqL K H a xs)
    (hs : ∀ D i x T ys H H', H1 D = none → xs[i]? = some x → H D = some (.lst ys) → ys.length ≤ i → P D i ys H → H T = none → Fr [] H H' → H' T = some (.tup [.int (i : Nat), x]) → g (.ref T) (wipe σ vs) H' fun σ2 H2 => wipe σ2 vs = wipe σ vs ∧ tt σ2 H2 fun b H3 => if b = true then te σ2 H3 (PutR D (P D) i) else LP D (P D) (i + 1) H3)
    (hd : ∀ D ys H, H1 D = none → P D xs.length ys H → H D = some (.lst ys) → ys.length ≤ xs.length → Q (.ref D) H) : LcR (Ite K a) g tt te vs Q σ H1 := by
  intro D hD
  refine ⟨fun i m H => m = xs.length - i ∧ i ≤ xs.length ∧ LP D (P D) i H, ⟨_, rfl, Nat.zero_le _, ⟨[], upd_same, Nat.le_refl _, h0 D _ hD (Fr.new hD) upd_same⟩⟩, ?_⟩
  rintro i m H ⟨rfl, hi, ys, hl, le, p⟩
  have q := hx D i ys H hD hi p hl
  by_cases hlt : i < xs.length
  · refine .inr ⟨⟨xs, xs[i], q, List.getElem?_eq_getElem hlt⟩, LP D (P D) (i + 1), fun H' p' => ⟨_, by omega, rfl, hlt, p'⟩, ?_⟩
    rintro v H' ⟨T, x, rfl, hT, rfl, hv⟩
    exact hs D i x T ys H _ hD (hv xs q) hl le p hT (Fr.new hT) upd_same
  · have e : i = xs.length := by omega
    subst e
    exact .inl ⟨⟨xs, q, Nat.le_refl _⟩, hd D ys H hD p hl le⟩
theorem x_yes {Q : Bool → Hp → Prop} (k : Q true H) : tYes σ H Q := k
theorem x_all {a : Addr} {bs : List Bool} (h : SqL K H a (bs.map V.bl)) (k : Q (.bl (bs.all id)) H) : rAll K [.ref a] H Q := ⟨a, bs, rfl, h, k⟩
theorem x_any {a : Addr} {bs : List Bool} (h : SqL K H a (bs.map V.bl)) (k : Q (.bl (bs.any id)) H) : rAny K [.ref a] H Q := ⟨a, bs, rfl, h, k⟩
theorem x_eqD {x y : V} {d e : PyData} (h1 : Dp K H x d) (h2 : Dp K H y e) (s1 : SeqAt.shaped d = true) (s2 : SeqAt.shaped e = true) (k : Q (.bl (PyData.eqv d e)) H) : rEqD K x y H Q := ⟨d, e, h1, h2, s1, s2, k⟩
theorem x_neD {x y : V} {d e : PyData} (h1 : Dp K H x d) (h2 : Dp K H y e) (s1 : SeqAt.shaped d = true) (s2 : SeqAt.shaped e = true) (k : Q (.bl (!PyData.eqv d e)) H) : rNeD K x y H Q := ⟨d, e, h1, h2, s1, s2, k⟩
theorem x_extend {l b : Addr} {xs zs : List V} (h : H l = some (.lst xs)) (hb : H b = some (.lst zs)) (hz : xs.length + zs.length ≤ 100000) (k : ∀ H', Fr [l] H H' → H' l = some (.lst (xs ++ zs)) → Q .non H') : rExtend (.ref l) [.ref b] H Q := ⟨l, b, xs, zs, rfl, rfl, h, hb, small hz, k _ (Fr.putL h (by simp)) upd_same⟩
end
/-! ### the truth of a value -/
def TruR (K : PySem.W.Frag) (Q : Bool → Hp → Prop) (x : V) (H : Hp) : Prop := ∃ k, TruV K x H k ∧ Q k H
def tTru (K : PySem.W.Frag) (ta : TE) : TT := fun σ H Q => ta σ H fun x H' => TruR K Q x H'
theorem pt_tru {X : Cx} {a : Expr} {ta : TE} (ha : PE X a ta) (he : ∀ whole, isTrue a X.env whole = (do let v ← whole; standAt a.pos; holding [v] (truthy v))) : PT X a (tTru X.K ta) := pt_truth ha he
theorem x_tru {K : PySem.W.Frag} {ta : TE} {σ : L2.St} {H : Hp} {Q : Bool → Hp → Prop} (k : ta σ H fun x H' => TruR K Q x H') : tTru K ta σ H Q := k
theorem x_trB {K : PySem.W.Frag} {b : Bool} {H : Hp} {Q : Bool → Hp → Prop} (k : Q b H) : TruR K Q (.bl b) H := ⟨b, rfl, k⟩
/-! ### a call whose exception is caught here -/
theorem pe_gotS {X : Cx} {CX : CXT} {x : Str} {e : Expr} {es : List Expr} {p pos : Pos} {t : TA} {k : Nat} {ps : List Str} {sp : Sp} {E : L2.St → XK} (G : Got X.prog X.w X.K X.mg X.base CX x k ps sp) (hr : Room k X.A) (hx : ∀ σ, PassesAt CX X σ (E σ)) (hg : Gl X x) (ha : PA X (e :: es) t)
    (hdb : (x == ("__debug__" : Str)) = false := by decide) (he : starEach (e :: es) X.env = (false, eval e X.env) :: starEach es X.env := by rfl) (hpl : (backTo pos (starEach es X.env)).any (·.1) = false := by rfl) :
    PE X (.Call (.Name x p) (e :: es) [] pos) (tCallS sp E t) := by
  obtain ⟨f, fd, F, m, kp, b⟩ := G.ex
  exact pe_callS F hr hg m kp b hx ha hdb he hpl
theorem x_gotS {sp : Sp} {E : L2.St → XK} {t : TA} {σ : L2.St} {H : Hp} {Q : VK} (k : t σ H fun vs H1 => sp vs H1 Q (E σ)) : tCallS sp E t σ H Q := k
/-! ### x is not False -/
def rNotFalse : R2 := fun x y H Q => ∃ b, y = .bl b ∧ ((∃ a, x = .bl a ∧ Q (.bl (!decide (a = b))) H) ∨ (∃ p, x = .ref p ∧ Q (.bl true) H))
theorem y_notFalse {X : Cx} : OpR X (compareOp .IsNot) rNotFalse := by
  intro pins s σ H x y v u Q I rx ry h
  obtain ⟨b, rfl, h⟩ := h
  obtain rfl : u = Value.bool b := ry
  rcases h with ⟨a, rfl, q⟩ | ⟨p, rfl, q⟩
  · obtain rfl : v = Value.bool a := rx
    by_cases e : a = b
    · subst e
      exact wpAny_isNot_self rfl ⟨.bl false, H, I, rfl, by simpa using q⟩
    · exact wpAny_isNot_other rfl (fun z => e (Value.bool.inj z)) ⟨.bl true, H, I, rfl, by simpa [e] using q⟩
  · obtain rfl : v = Value.ref p := rx
    exact wpAny_isNot_other rfl (fun z => nomatch z) ⟨.bl true, H, I, rfl, q⟩
theorem x_notFalseB {a b : Bool} {H : Hp} {Q : VK} (k : Q (.bl (!decide (a = b))) H) : rNotFalse (.bl a) (.bl b) H Q := ⟨b, rfl, .inl ⟨a, rfl, k⟩⟩
theorem x_notFalseR {p : Addr} {b : Bool} {H : Hp} {Q : VK} (k : Q (.bl true) H) : rNotFalse (.ref p) (.bl b) H Q := ⟨b, rfl, .inr ⟨p, rfl, k⟩⟩
end My
namespace PySem
namespace BadX
open PySem.W PySem.Calls PyProof.Rows PySem.HandSPX
abbrev sI : Stmt := My.s_BadToken___init
abbrev bodyI : List Stmt := L2.defBody sI
abbrev scopeI : Scope := L2.defScope sI
/-- what the written part says of BadToken, at C, and of its __init__, at fI (cell cc, code cda) -/
structure BadTxt (prog : Program) (K : Frag) (mg : Str → Option Value) (C fI cc cda : Addr) : Prop where
  gC : mg "BadToken" = some (.ref C)
  cls : ∃ nm q N bs bm sn sub ab col dd k0 k1 k2 k3 k5, K.lookup C = some (excClassObj nm q C N bs bm true sn sub ab col dd k0 k1 k2 k3 k5 "ValueError.__new__") ∧ refsVE bm = true
  sa : findIn K (.ref C) "__setattr__" = some (some (.builtin "object.__setattr__"))
  noR : findIn K (.ref C) "row" = some none
  noC : findIn K (.ref C) "column" = some none
  iC : findIn K (.ref C) "__init__" = some (some (.ref fI))
  tC : typeIn K (.ref fI) = some (.type "function")
  kC : keepIn K (.ref C) = true
  exC : subIn K (.ref C) (.type "BaseException") = some true
  veC : subIn K (.ref C) (.type "ValueError") = some true
  tyC : typeIn K (.ref C) = some (.type "type")
  suC : mroIn K C (.ref C) = some true
  suI : ks_superIn K C C "__init__" = some (some (.builtin "ValueError.__init__"))
  noS : mg "super" = none
  noO : nsIn K cStatics "thirdparty.any" = some none
  cell : ∃ (cl : Value) (cld : Option Addr) (csl : Array (Option Value)), K.lookup cc = some ⟨cl, cld, .cell (some (.ref C)), csl⟩
  code : ∃ (ccl : Value) (cdd : Option Addr) (vs : Array Value) (ccs : Array (Option Value)) (file : Str) (tf : Tok), K.lookup cda = some ⟨ccl, cdd, .fields vs, ccs⟩ ∧ vs[2]? = some (.str file tf) ∧ ((prog.main.file : Str) == file) = true
  top : (prog.main.scope.names.lookup ("super" : Str)).isSome = false
  fn : ∃ (oc : Value) (od : Option Addr) (dV kV doc pm : Value) (an : Option Addr) (ct : Value) (osl : Array (Option Value)),
    K.lookup fI = some ⟨oc, od, .func (ksFn "__init__" "BadToken.__init__" (L2.defArgs sI) bodyI scopeI dV kV doc pm an (.ref cda) ct cc), osl⟩ ∧ codeIn K (.ref cda) "BadToken.__init__" = true ∧
    ∀ (s : Shared) (x v1 v2 : Value), BindsTo s (ksFn "__init__" "BadToken.__init__" (L2.defArgs sI) bodyI scopeI dV kV doc pm an (.ref cda) ct cc) ⟨[x, v1, v2], []⟩ [("self", x), ("row", v1), ("column", v2)]
/-- what __init__ leaves of a fresh exception at x -/
structure InitEnd (h h' : Heap) (x C dx t1 : Addr) (v1 v2 : Value) : Prop where
  keep : ∀ b o, b ≠ x → h.get? b = some o → h'.get? b = some o
  obj : h'.get? x = some { cls := .ref C, dict := some dx, data := .fields #[.ref t1, .none, .none, .none, .bool false, .none] }
  dbig : h.objs.size ≤ dx
  dne : dx ≠ x
  ns : h'.Ns1 dx (fun y => if y = "column" then some v2 else if y = "row" then some v1 else none)
structure OwnMade (h h' : Heap) (e C d : Addr) (v1 v2 : Value) : Prop where
  keep : ∀ b o, h.get? b = some o → h'.get? b = some o
  new : h.objs.size ≤ e
  obj : ∃ oe vs, h'.get? e = some oe ∧ oe.cls = .ref C ∧ oe.dict = some d ∧ oe.data = .fields vs ∧ vs[1]? = some .none
  dbig : h.objs.size ≤ d
  dne : d ≠ e
  ns : h'.Ns1 d (fun y => if y = "column" then some v2 else if y = "row" then some v1 else none)
theorem str_size (v : Value) : [v].length ≤ sizeLine := by
  rw [sizeLine_eq]
  exact (by decide : 1 ≤ 16777216)
theorem two_size (v u : Value) : [v, u].length ≤ sizeLine := by
  rw [sizeLine_eq]
  exact (by decide : 2 ≤ 16777216)
section
variable {prog : Program} {w : World} {M : Model} {A : Around} {E : Value → Shared → Prop} {R : Result → Shared → Prop} {s : Shared} {K : Frag} {mg : Str → Option Value} {C fI cc cda : Addr}
/-- super().__init__(..) of a bound wrapper -/
theorem call_bw {nm q : Str} {N : Addr} {bs bm : List Value} {hdct : Bool} {sn : List Str} {sub : List Value} {ab : Bool} {col : Option Bool} {dd : Option Addr} {k0 k1 k2 k3 k5 : Option Value} {h : Heap} {g : Array GenState} {d : Drawn} {t : Nat} {os : OsState}
    {u e t0 : Addr} {rest : List Value} {Q : Value → Shared → Prop}
    (hC : h.get? C = some (excClassObj nm q C N bs bm hdct sn sub ab col dd k0 k1 k2 k3 k5 "ValueError.__new__")) (he : h.get? e = some (excO C t0)) (hu : h.get? u = some (kxs_mw "ValueError.__init__" e)) (hrest : rest.length ≤ sizeLine)
    (hq : ∀ h' t1, (∀ b o, b ≠ e → h.get? b = some o → h'.get? b = some o) → h'.get? e = some (excO C t1) → Q .none ⟨h', g, d, t, os⟩) :
    wpAny (model prog w) A (call (.ref u) rest) Q E ⟨h, g, d, t, os⟩ := by
  refine wpAny_call (codeAny_of_tree ?_)
  show wpAny _ A.in1 (callAny (.ref u) ⟨rest, []⟩) _ _ _
  simp only [callAny]
  refine wpAny_bind (wpAny_load hu ?_)
  simp only [kxs_mw, show (Value.type "method-wrapper" == Value.type "method" || Value.type "method-wrapper" == Value.type "builtin_function_or_method" || Value.type "method-wrapper" == Value.type "method-wrapper") = true by decide, if_true]
  refine W.KFB.if_so (by decide) ?_
  refine wpAny_bind (check_bound_init F.excBase_ValueError.toExcCallFacts hC he rfl ?_)
  refine wpAny_bind (wpAny_pure (wpAny_pure ?_))
  refine ⟨plainId_quiet F.excBase_ValueError.init.plain _, codeAny_builtin F.excBase_ValueError.initEntry ?_⟩
  rw [Around.under_plainId F.excBase_ValueError.init.plain _]
  wp_walk
  refine hq _ h.objs.size (fun b o hb ho => ?_) ?_
  · rw [Heap.get?_update_other _ _ (Ne.symm hb)]
    exact Heap.get?_push_of_some _ ho
  · rw [Heap.get?_update_self _ (Heap.get?_push_of_some _ he) rfl]
    rfl
theorem callW1 {M : Model} {s : Shared} {i : String} {u x : Addr} {m : Str} {j : Nat} {pos cp : Pos} {first : List Value} {env : Env} {Q : Value → Shared → Prop} (hu : s.heap.get? u = some (kxs_mw i x)) (h : wpAny M A (call (.ref u) (first ++ [.str m s.toks])) Q E { s with toks := s.toks + 1 }) :
    wpAny M A (callWith pos (.ref u) first (backTo pos (starEach [.Constant (.str m) j cp] env)) []) Q E s := by
  have he : starEach [.Constant (.str m) j cp] env = (false, eval (.Constant (.str m) j cp) env) :: starEach [] env := rfl
  rw [he]
  refine kxs_callWith (i := i) (x := x) rfl (evalArgs_plain ?_)
  show wpAny M A (spliced ((false, eval (.Constant (.str m) j cp) env) :: [])) _ E s
  exact Calls.spliced_cons (Calls.Constant_str (k := j) (pos := cp) (Calls.spliced_nil ⟨hu, h⟩))
theorem bad_init (T : BadTxt prog K mg C fI cc cda) {x t0 : Addr} {v1 v2 : Value} (X : K.In s.heap) (G : s.heap.Ns mainGlobals mg) (B : ∃ mb, s.heap.Ns builtinsNs mb ∧ mb "super" = some (.type "super")) (hlim : s.heap.NoLimit) (hx : s.heap.get? x = some (excO C t0)) (hnx : K.lookup x = none) (hroom : A.depth < recursionLimit)
    (hq : ∀ h' tk dx t1, InitEnd s.heap h' x C dx t1 v1 v2 → R (.ok (.ret .none)) { s with heap := h', toks := tk }) :
    codeAny (model prog w) A (.call (.ref fI) ⟨[.ref x, v1, v2], []⟩) R s := by
  obtain ⟨oc, od, dV, kV, doc, pm, an, ct, osl, ho, hcd, hbind⟩ := T.fn
  obtain ⟨nm, q, N, bs, bm, sn, sub, ab, col, dd, k0, k1, k2, k3, k5, hC, hbm⟩ := T.cls
  obtain ⟨cl, cld, csl, hcell⟩ := T.cell
  obtain ⟨ccl, cdd, vs, ccs, file, tf, hcode, hvs, hfile⟩ := T.code
  have hxC : x ≠ C := fun z => by
    rw [z, hC] at hnx
    cases hnx
  have hcl : clsIn K C = some { name := nm, bases := bs, mro := .ref C :: bm, ns := N, qualname := q, hasDict := true, slotNames := sn, subclasses := sub, abstract := ab, collection := col, hasDel := false } := by unfold clsIn; rw [hC] <;> rfl
  obtain ⟨mb, hB, hBs⟩ := B
  obtain ⟨hp, g, d, tk0, os⟩ := s
  refine ks_codeAny_call_defAt (fd := ksFn "__init__" "BadToken.__init__" (L2.defArgs sI) bodyI scopeI dV kV doc pm an (.ref cda) ct cc) (body := bodyI) (binds := [("self", .ref x), ("row", v1), ("column", v2)]) hroom (X _ _ ho) rfl hlim (codeRec_of X hcd) rfl (hbind _ _ _ _) (by
    show ∀ x ∈ scopeI.names, x.2 ≠ .cell
    decide +kernel) (by
    intro y hy
    simp only [List.mem_cons, List.not_mem_nil, or_false] at hy
    rcases hy with rfl | rfl | rfl <;> rfl) (fun h₁ hns hk₁ => ?_) rfl rfl rfl
  have X₁ : K.In h₁ := X.keeps hk₁
  have hx₁ := hk₁ _ _ hx
  show wpAt _ (A.deeper (ksEnv "BadToken.__init__" scopeI hp.objs.size fI (.ref cda) cc)) (.func bodyI (ksEnv "BadToken.__init__" scopeI hp.objs.size fI (.ref cda) cc)) (execs bodyI (ksEnv "BadToken.__init__" scopeI hp.objs.size fI (.ref cda) cc)) _ _ _
  refine ks_wpAt_execs_cons (ks_wpAt_Expr_any (ks_wpAt_MethodCall ?_))
  obtain ⟨oD, hD1, hD2⟩ : ∃ oD, h₁.get? C = some oD ∧ oD.data = .cls { name := nm, bases := bs, mro := .ref C :: bm, ns := N, qualname := q, hasDict := true, slotNames := sn, subclasses := sub, abstract := ab, collection := col, hasDel := false } := ⟨_, X₁ _ _ hC, rfl⟩
  have hBs' : mb "super" = some (.type "super") := hBs
  refine ks_wpAt_super_base (f := fI) (cc := cda) rfl rfl (by decide) rfl (X₁ _ _ ho) rfl rfl rfl (X₁ _ _ hcode) rfl hvs hfile T.top ?_
  refine ks_loadName_global rfl rfl (loadGlobal_builtin (Heap.Ns.keeps G hk₁) T.noS (Heap.Ns.keeps hB hk₁) hBs' ⟨rfl, ?_⟩)
  refine wpAny_loadName_free rfl rfl rfl ⟨_, X₁ _ _ hcell, rfl⟩ ?_
  refine wpAny_loadName_local rfl rfl hns (v := .ref x) rfl ?_
  refine ks_wpAny_isType_cls hD1 hD2 ⟨rfl, ?_⟩
  refine ks_wpAny_call_super hD1 hD2 hx₁ rfl (fun c e => nomatch e) (looks_mroIn X₁ T.suC) (fun h₂ e₂ k₂ => ?_)
  have X₂ : K.In h₂ := X₁.keeps k₂
  have hx₂ := k₂ _ _ hx₁
  have I₂ : InstAt h₂ x (excO C t0) C none := ⟨hx₂, rfl, rfl, trivial⟩
  have su : alongIn K "__init__" (((Value.ref C :: bm).dropWhile (· != .ref C)).drop 1) = some (some (.builtin "ValueError.__init__")) := by
    have z := T.suI
    unfold ks_superIn at z
    rw [hcl] at z
    exact z
  refine kxs_getMethod kxs_ValueError e₂ (looks_opaque X₂ T.noO) (l₀ := .ref C :: bm) (fun A Q E s k q => wpAny_bind ((looks_clsIn X₂ hcl) A _ E s k (wpAny_pure q))) rfl X₂ su (I₂.type.andThen (looks_subIn X₂ T.veC)) hxC (by decide) ?_
  have hu : (h₂.push (kxs_mw "ValueError.__init__" x)).get? h₂.objs.size = some (kxs_mw "ValueError.__init__" x) := Heap.get?_push_at rfl rfl
  refine callW1 hu ?_
  have up₂ : ∀ b o, h₂.get? b = some o → (h₂.push (kxs_mw "ValueError.__init__" x)).get? b = some o := fun b o e => Heap.get?_push_of_some _ e
  refine call_bw (up₂ _ _ (X₂ _ _ hC)) (up₂ _ _ hx₂) hu (str_size _) (fun h₃ t1 k₃ hx₃ => ?_)
  have xL : hp.objs.size ≠ x := fun z => by
    have y := Heap.lt_size (show hp.get? x = some _ from hx)
    rw [← z] at y
    exact absurd y (Nat.lt_irrefl _)
  have nx : ∀ {b o}, hp.get? b = some o → b ≠ x → h₃.get? b = some o := fun {b o} e n => k₃ b o n (up₂ _ _ (k₂ _ _ (hk₁ _ _ e)))
  have n₁ : ∀ {b o}, h₁.get? b = some o → b ≠ x → h₃.get? b = some o := fun {b o} e n => k₃ b o n (up₂ _ _ (k₂ _ _ e))
  have X₃ : K.In h₃ := fun b o e => k₃ b o (fun z => by rw [z, hnx] at e; cases e) (up₂ _ _ (X₂ _ _ e))
  have ns₃ : h₃.Ns hp.objs.size (fun y => List.lookup y [(("self" : Str), Value.ref x), (("row" : Str), v1), (("column" : Str), v2)].reverse) := by
    obtain ⟨oL, es, ep, hL, r⟩ := hns
    exact ⟨oL, es, ep, n₁ hL xL, r⟩
  show wpAt _ _ _ (execs _ _) _ _ _
  refine wpAt_of_wpAny ?_
  -- self.row = row
  refine wpAny_execs_cons (plainObj_wpAny_Assign_Attribute ?_)
  refine ESX.ldL (v := v1) ns₃ rfl (ESX.ldL (v := .ref x) ns₃ rfl ?_)
  refine set_plain X₃ (ox := excO C t1) (od := none) ⟨hx₃, rfl, rfl, trivial⟩ T.sa ?_
  refine exc_osa X₃ hx₃ hcl (show refsVE (.ref C :: bm) = true from hbm) rfl T.noR (fun h₄ tk₄ dx k₄ dn dne hx₄ hn₄ => ?_)
  have X₄ : K.In h₄ := fun b o e => k₄ b o (fun z => by rw [z, hnx] at e; cases e) (X₃ _ _ e)
  have sz : hp.objs.size ≤ h₃.objs.size := by
    obtain ⟨oL, es, ep, hL, r⟩ := ns₃
    exact Nat.le_of_lt (Heap.lt_size hL)
  have ns₄ : h₄.Ns hp.objs.size (fun y => List.lookup y [(("self" : Str), Value.ref x), (("row" : Str), v1), (("column" : Str), v2)].reverse) := by
    obtain ⟨oL, es, ep, hL, r⟩ := ns₃
    exact ⟨oL, es, ep, k₄ _ _ xL hL, r⟩
  show wpAny _ _ (execs _ _) _ _ _
  -- self.column = column
  refine wpAny_execs_cons (plainObj_wpAny_Assign_Attribute ?_)
  refine ESX.ldL (v := v2) ns₄ rfl (ESX.ldL (v := .ref x) ns₄ rfl ?_)
  obtain ⟨oD4, _, _, hoD4, _, _⟩ := id hn₄
  refine set_plain X₄ (ox := { cls := .ref C, dict := some dx, data := .fields #[.ref t1, .none, .none, .none, .bool false, .none] }) (od := some oD4) ⟨hx₄, rfl, rfl, hoD4⟩ T.sa ?_
  refine OEX.osa_old X₄ hx₄ hn₄ (nl := ["row"]) (fun y hy => ?_) (by decide) hcl (show refsVE (.ref C :: bm) = true from hbm) rfl T.noC (fun h₅ tk₅ k₅ hn₅ => ?_)
  · by_cases e : y = "row"
    · rw [e]
      exact List.mem_cons_self
    · exact absurd (if_neg e) hy
  show wpAny _ _ (execs _ _) _ _ _
  refine wpAny_execs_nil (hq h₅ tk₅ dx t1 ⟨fun b o hb e => ?_, k₅ _ _ dne.symm hx₄, Nat.le_trans sz dn, dne, hn₅⟩)
  have e3 : h₃.get? b = some o := nx e hb
  exact k₅ b o (fun z => by
    rw [z] at e3
    exact absurd (Nat.lt_of_lt_of_le (Heap.lt_size e3) dn) (Nat.lt_irrefl _)) (k₄ b o hb e3)
theorem bad_made (T : BadTxt prog K mg C fI cc cda) {v1 v2 : Value} (X : K.In s.heap) (G : s.heap.Ns mainGlobals mg) (B : ∃ mb, s.heap.Ns builtinsNs mb ∧ mb "super" = some (.type "super")) (hlim : s.heap.NoLimit) (hroom : A.depth + 1 < recursionLimit)
    (hq : ∀ h' tk e d, OwnMade s.heap h' e C d v1 v2 → R (.ok (.ret (.ref e))) { s with heap := h', toks := tk }) :
    codeAny (model prog w) A (.call (.ref C) ⟨[v1, v2], []⟩) R s := by
  obtain ⟨nm, q, N, bs, bm, sn, sub, ab, col, dd, k0, k1, k2, k3, k5, hC, hbm⟩ := T.cls
  obtain ⟨hp, g, dr, tk, os⟩ := s
  have k : ∀ b o, hp.get? b = some o → ((hp.push (kdv_tup [v1, v2])).push (excO C hp.objs.size)).get? b = some o := fun b o e => Heap.get?_push_of_some _ (Heap.get?_push_of_some _ e)
  have hget : ((hp.push (kdv_tup [v1, v2])).push (excO C hp.objs.size)).get? (hp.objs.size + 1) = some (excO C hp.objs.size) := by heap_get
  have hnx : K.lookup (hp.objs.size + 1) = none := by
    cases e : K.lookup (hp.objs.size + 1) with
    | none => rfl
    | some o =>
      have z : hp.get? (hp.objs.size + 1) = some o := X _ _ e
      exact absurd (Nat.lt_of_succ_lt (Heap.lt_size z)) (Nat.lt_irrefl _)
  refine call_own F.excBase_ValueError (fun X => refsVE_contains X bm hbm) (X _ _ hC) (looks_findIn X T.iC) (fun self => bind_fn X self T.tC) (two_size _ _) ?_
  obtain ⟨mb, B1, B2⟩ := B
  refine bad_init (s := ⟨(hp.push (kdv_tup [v1, v2])).push (excO C hp.objs.size), g, dr, tk, os⟩) T (X.keeps k) (Heap.Ns.keeps G k) ⟨mb, Heap.Ns.keeps B1 k, B2⟩ (hlim.keeps k) hget hnx ?_ fun h' tk' dx t1 ⟨k', hx, dn, dne, hns⟩ => ?_
  · show A.depth + 1 < recursionLimit
    exact hroom
  · have old : ∀ b o, hp.get? b = some o → h'.get? b = some o := fun b o e => k' b o (Nat.ne_of_lt (Nat.lt_succ_of_lt (Heap.lt_size e))) (k b o e)
    have z : hp.objs.size + 1 + 1 ≤ dx := by
      first
        | (simpa only [Heap.size_push] using dn)
        | exact dn
        | (have q := dn; rw [Heap.size_push, Heap.size_push] at q; exact q)
    exact ⟨rfl, hq h' tk' (hp.objs.size + 1) dx ⟨old, Nat.le_succ _, ⟨_, _, hx, rfl, rfl, rfl, rfl⟩, Nat.le_trans (Nat.le_trans (Nat.le_succ _) (Nat.le_succ _)) z, dne, hns⟩⟩
end
end BadX
end PySem
namespace My
open PySem PySem.Spec L2
theorem relO_bad {v1 v2 : V} {u1 u2 : Value} (r1 : RelV v1 u1) (r2 : RelV v2 u2) (f : Str) : RelO (List.lookup f [(("column" : Str), v2), (("row" : Str), v1)]) (if f = "column" then some u2 else if f = "row" then some u1 else none) := by
  rw [lookup_put, lookup_put]
  by_cases h : f = "column"
  · rw [if_pos h, if_pos h]; exact r2
  · rw [if_neg h, if_neg h]
    by_cases h2 : f = "row"
    · rw [if_pos h2, if_pos h2]; exact r1
    · rw [if_neg h2, if_neg h2]; trivial
section
variable {X : Cx} {C fI cc cda : Addr}
/-- BadToken(a, b) -/
def tMkBad (C : Addr) (ta : TA) : L2.St → Hp → XK → Prop := fun σ H Q => ta σ H fun vs H1 => ∃ v1 v2, vs = [v1, v2] ∧ ∀ d, H1 d = none → Q (.ref C) (some d) (upd H1 d (.xd [(("column" : Str), v2), (("row" : Str), v1)]))
theorem pmk_bad {a b : Expr} {ta : TA} {p pos : Pos} {k : Nat} (T : PySem.BadX.BadTxt X.prog X.K X.mg C fI cc cda) (hr : Room k X.A) (ha : PA X [a, b] ta) (hg : Gl X "BadToken" := by rfl)
    (he : starEach (a :: [b]) X.env = (false, eval a X.env) :: starEach [b] X.env := by rfl) (hpl : (backTo pos (starEach [b] X.env)).any (·.1) = false := by rfl) :
    PMk X (.Call (.Name "BadToken" p) [a, b] [] pos) (tMkBad C ta) := by
  intro pins s σ H Q I h
  refine wpAny_Call_Name_kw (ld_glob I hg T.gC ?_)
  refine PySem.W.callWith_K (h₀ := X.base) I.ok.mod.kin T.kC (thn (ha.run pos pins s σ H _ I h) fun us s1 hh => ?_) he hpl
  obtain ⟨vs, H1, I1, r1, v1, v2, ev, q1⟩ := hh
  subst ev
  refine ⟨I1.kIn, ?_⟩
  cases r1 with
  | cons rv1 rn =>
    cases rn with
    | cons rv2 rn2 =>
      cases rn2
      rename_i u1 u2
      show wpAny _ _ (call (.ref C) [u1, u2]) _ _ _
      have hlim := I1.nolimit
      have hG : s1.heap.Ns mainGlobals X.mg := Heap.Ns.keeps I1.mod.glob I1.bk
      have hB : ∃ mb, s1.heap.Ns builtinsNs mb ∧ mb "super" = some (.type "super") := by
        obtain ⟨mb, h1, h2⟩ := I1.mod.blt
        exact ⟨mb, Heap.Ns.keeps h1 I1.bk, (h2 "super" (by decide)).trans (by decide +kernel)⟩
      obtain ⟨hp, g, dr, tk, os⟩ := s1
      refine wpAny_call (PySem.BadX.bad_made T I1.kIn hG hB hlim (by have := hr.dp; omega) fun h' tk' e d M => ?_)
      show MkP X pins σ Q (.ref e) ⟨h', g, dr, tk', os⟩
      obtain ⟨oe, fv, hoe, hc, hd, hdat, h1⟩ := M.obj
      have hns := M.ns
      obtain ⟨G', g1, g2⟩ := restrict h' fun b => decide (b ≠ e)
      have gk : ∀ b, b ≠ e → G'.get? b = h'.get? b := fun b hb => g1 b (decide_eq_true hb)
      have ge : G'.get? e = none := g2 e (by simp)
      have old : ∀ b o, hp.get? b = some o → G'.get? b = some o := fun b o q => (gk b (Nat.ne_of_lt (Nat.lt_of_lt_of_le (Heap.lt_size q) M.new))).trans (M.keep b o q)
      have ob : ObjOk X.prog X.w (upd H1 d (.xd [(("column" : Str), v2), (("row" : Str), v1)])) G' d (.xd [(("column" : Str), v2), (("row" : Str), v1)]) :=
        ⟨_, hns.at (fun o q => (gk d M.dne).trans q), fun f => relO_bad rv1 rv2 f⟩
      have J : Inv X pins σ (upd H1 d (.xd [(("column" : Str), v2), (("row" : Str), v1)])) ⟨G', g, dr, tk', os⟩ := I1.laid (t' := tk') old M.dbig ob
      refine ⟨e, oe, fv, ⟨G', g, dr, tk', os⟩, _, .ref C, some d, rfl, J, fun b o q => ?_, ge, hoe, ⟨hc, hd⟩, hdat, h1, ?_, rfl, I1.bare, raises_own T.exC T.tyC, q1 d (I1.hok.fresh M.dbig)⟩
      · by_cases hb : b = e
        · have q' : G'.get? b = some o := q
          rw [hb, ge] at q'; cases q'
        · exact (gk b hb).symm.trans q
      · rw [upd_ne (Ne.symm M.dne)]
        exact I1.hok.fresh M.new
/-- raise BadToken(a, b) -/
def tRaiseBad (C : Addr) (W : WX) (ta : TA) : TS := fun _ σ H => ta σ H fun vs H1 => ∃ v1 v2, vs = [v1, v2] ∧ ∀ d, H1 d = none → W (.ref C) (some d) σ (upd H1 d (.xd [(("column" : Str), v2), (("row" : Str), v1)]))
theorem ps_raiseBad {a b : Expr} {ta : TA} {W : WX} {p pos pos2 : Pos} {k : Nat} (hc : X.calm = true) (tk : Takes X W) (T : PySem.BadX.BadTxt X.prog X.K X.mg C fI cc cda) (hr : Room k X.A) (ha : PA X [a, b] ta) (hg : Gl X "BadToken" := by rfl)
    (he : starEach (a :: [b]) X.env = (false, eval a X.env) :: starEach [b] X.env := by rfl) (hpl : (backTo pos (starEach [b] X.env)).any (·.1) = false := by rfl) :
    PS X (.Raise (some (.Call (.Name "BadToken" p) [a, b] [] pos)) none pos2) (tRaiseBad C W ta) := ps_raise hc tk (pmk_bad T hr ha hg he hpl)
theorem x_raiseBad {W : WX} {ta : TA} {D : Ends} {σ : L2.St} {H : Hp} (k : ta σ H fun vs H1 => ∃ v1 v2, vs = [v1, v2] ∧ ∀ d, H1 d = none → W (.ref C) (some d) σ (upd H1 d (.xd [(("column" : Str), v2), (("row" : Str), v1)]))) : tRaiseBad C W ta D σ H := k
/-- raise C('..') -/
def tRaiseOwn (C : Addr) (W : WX) : TS := fun _ σ H => W (.ref C) none σ H
theorem ps_raiseOwn {x m : Str} {j : Nat} {p p2 pos pos2 : Pos} {W : WX} {bmB : List Value} (hc : X.calm = true) (tk : Takes X W) (q : PySem.W.excIn X.K C bmB "ValueError.__new__" = true) (hb : bmB = [.type "ValueError", .type "Exception", .type "BaseException", .type "object"]) (gC : X.mg x = some (.ref C)) (kC : PySem.W.keepIn X.K (.ref C) = true) (r : Raises X (.ref C)) (hg : Gl X x) (hdb : (x == ("__debug__" : Str)) = false := by decide) :
    PS X (.Raise (some (.Call (.Name x p) [.Constant (.str m) j p2] [] pos)) none pos2) (tRaiseOwn C W) := by
  subst hb
  exact ps_raise hc tk (pmk_own PySem.F.excBase_ValueError q gC kC r hg hdb)
theorem x_raiseOwn {W : WX} {D : Ends} {σ : L2.St} {H : Hp} (k : W (.ref C) none σ H) : tRaiseOwn C W D σ H := k
end
end My
namespace My
open PySem PySem.Spec L2
/-! ### the signs -/
abbrev LET : Str := "abcdefghijklmnopqrstuvwxyzABCDEFGHIJKLMNOPQRSTUVWXYZ"
abbrev DIG : Str := "0123456789"
abbrev MRK : Str := "+-*/(){};,=<>!:.?&|"
abbrev ALL : Str := "abcdefghijklmnopqrstuvwxyzABCDEFGHIJKLMNOPQRSTUVWXYZ0123456789+-*/(){};,=<>!:.?&| "
theorem cs_append (a b : Str) : cs (a ++ b) = cs a ++ cs b := by
  show (a.cps ++ b.cps).toList = _
  simp [cs]
theorem len_append (a b : Str) : (a ++ b).length = a.length + b.length := by
  rw [← cs_len, cs_append, List.length_append, cs_len, cs_len]
theorem all_eq : cs ALL = cs LET ++ cs DIG ++ cs MRK ++ [32] := by decide +kernel
theorem mem_all {c : Nat} : c ∈ cs ALL ↔ c ∈ cs LET ∨ c ∈ cs DIG ∨ c ∈ cs MRK ∨ c = 32 := by
  rw [all_eq]
  simp only [List.mem_append, List.mem_singleton, or_assoc]
theorem mem_ld {c : Nat} : c ∈ cs (LET ++ DIG) ↔ c ∈ cs LET ∨ c ∈ cs DIG := by
  rw [cs_append, List.mem_append]
theorem let_dig : ∀ c ∈ cs LET, c ∉ cs DIG := by decide +kernel
theorem let_sp : (32 : Nat) ∉ cs LET := by decide +kernel
theorem dig_sp : (32 : Nat) ∉ cs DIG := by decide +kernel
theorem mrk_sp : (32 : Nat) ∉ cs MRK := by decide +kernel
theorem mrk_let : ∀ c ∈ cs MRK, c ∉ cs LET := by decide +kernel
theorem mrk_dig : ∀ c ∈ cs MRK, c ∉ cs DIG := by decide +kernel
theorem str_ext {a b : Str} (h : cs a = cs b) : a = b := by
  obtain ⟨x⟩ := a
  obtain ⟨y⟩ := b
  have e : x.toList = y.toList := h
  rw [Array.ext' e]
theorem space_eq {c : Nat} : ((⟨#[c]⟩ : Str) = (" " : Str)) ↔ c = 32 := by
  constructor
  · intro h
    have e : cs ⟨#[c]⟩ = cs (" " : Str) := by rw [h]
    have e2 : cs (" " : Str) = [32] := by decide +kernel
    rw [e2] at e
    exact List.head_eq_of_cons_eq e
  · rintro rfl
    exact str_ext (by decide +kernel)
/-! ### tokens: one function for both readings -/
def over (z : Str) (j c : Nat) : Nat :=
  if c ∈ cs LET then j + runLen (fun c => decide (c ∈ cs (LET ++ DIG))) ((cs z).drop j) else if c ∈ cs DIG then j + runLen (fun c => decide (c ∈ cs DIG)) ((cs z).drop j) else j + 1
def kind (c : Nat) : Str := if c ∈ cs LET then "word" else if c ∈ cs DIG then "number" else "mark"
def piece (z : Str) (j c : Nat) : Str := cutS z (some (j : Int)) (some (over z j c : Int))
def tokV (z : Str) (row : Int) (j : Nat) (g : Bool) (c : Nat) : List V := [.str (kind c), .str (piece z j c), .int row, .int (j : Int), .bl g]
def tokD (z : Str) (row : Int) (j : Nat) (g : Bool) (c : Nat) : PyData := .tuple [.str (kind c), .str (piece z j c), .int row, .int (j : Int), .bool g]
def toks (z : Str) (row : Int) : Nat → Nat → Bool → List PyData
  | 0, _, _ => []
  | n + 1, j, g => match (cs z)[j]? with
    | none => []
    | some c => if c = 32 then toks z row n (j + 1) false else tokD z row j g c :: toks z row n (over z j c) true
theorem runLen_pos {ok : Nat → Bool} {c : Nat} {r : List Nat} (h : ok c = true) : 1 ≤ runLen ok (c :: r) := by
  show 1 ≤ (if ok c = true then _ else _)
  rw [if_pos h]
  exact Nat.le_add_left _ _
theorem over_gt {z : Str} {j c : Nat} (h : (cs z)[j]? = some c) : j < over z j c := by
  have hj : j < (cs z).length := (List.getElem?_eq_some_iff.mp h).1
  have hd : (cs z).drop j = c :: (cs z).drop (j + 1) := by
    rw [List.drop_eq_getElem_cons hj, (List.getElem?_eq_some_iff.mp h).2]
  unfold over
  rw [hd]
  split
  · rename_i hc
    have := runLen_pos (ok := fun c => decide (c ∈ cs (LET ++ DIG))) (r := (cs z).drop (j + 1)) (decide_eq_true (mem_ld.mpr (.inl hc)))
    omega
  · split
    · rename_i hc
      have := runLen_pos (ok := fun c => decide (c ∈ cs DIG)) (r := (cs z).drop (j + 1)) (decide_eq_true hc)
      omega
    · omega
theorem over_le {z : Str} {j c : Nat} (h : (cs z)[j]? = some c) : over z j c ≤ z.length := by
  have hj : j < (cs z).length := (List.getElem?_eq_some_iff.mp h).1
  have hl := cs_len z
  have a := fun ok => runLen_le ok ((cs z).drop j)
  unfold over
  split
  · have := a fun c => decide (c ∈ cs (LET ++ DIG))
    rw [List.length_drop] at this
    omega
  · split
    · have := a fun c => decide (c ∈ cs DIG)
      rw [List.length_drop] at this
      omega
    · omega
theorem piece_len {z : Str} {j c : Nat} (h : (cs z)[j]? = some c) : (piece z j c).length = over z j c - j := by
  have hj : j < (cs z).length := (List.getElem?_eq_some_iff.mp h).1
  have h1 := over_gt h
  have h2 := over_le h
  rw [cs_len] at hj
  rw [← cs_len]
  show (((z.cps.toList.drop (HT.sIx z.length 0 (some (j : Int)))).take (HT.sIx z.length z.length (some (over z j c : Int)) - HT.sIx z.length 0 (some (j : Int)))).toArray).toList.length = _
  rw [HT.sIx_nat, HT.sIx_nat, List.toList_toArray, List.length_take, List.length_drop]
  have h3 : z.cps.toList.length = z.length := cs_len z
  rw [h3]
  omega
theorem cut_one {z : Str} {j c : Nat} (h : (cs z)[j]? = some c) : cutS z (some (j : Int)) (some ((j + 1 : Nat) : Int)) = ⟨#[c]⟩ := by
  have hj : j < (cs z).length := (List.getElem?_eq_some_iff.mp h).1
  have hj2 := hj
  rw [cs_len] at hj2
  have hd : (cs z).drop j = c :: (cs z).drop (j + 1) := by
    rw [List.drop_eq_getElem_cons hj, (List.getElem?_eq_some_iff.mp h).2]
  refine str_ext ?_
  show (((z.cps.toList.drop (HT.sIx z.length 0 (some (j : Int)))).take (HT.sIx z.length z.length (some ((j + 1 : Nat) : Int)) - HT.sIx z.length 0 (some (j : Int)))).toArray).toList = [c]
  rw [HT.sIx_nat, HT.sIx_nat, List.toList_toArray, show min j z.length = j by omega, show min (j + 1) z.length - j = 1 by omega]
  have hd' : List.drop j z.cps.toList = c :: (cs z).drop (j + 1) := hd
  rw [hd']
  rfl
/-- the first sign that belongs to nothing -/
def wrong (z : Str) : Option Nat := (cs z).findIdx? fun c => !decide (c ∈ cs ALL)
def wrongI (z : Str) : Int := match wrong z with
  | some p => (p : Int)
  | none => -1
theorem wrong_at {z : Str} {j c : Nat} (h : (cs z)[j]? = some c) (hc : c ∉ cs ALL) (hb : ∀ i d, i < j → (cs z)[i]? = some d → d ∈ cs ALL) : wrong z = some j := by
  unfold wrong
  rw [List.findIdx?_eq_some_iff_getElem]
  obtain ⟨hj, e⟩ := List.getElem?_eq_some_iff.mp h
  refine ⟨hj, by rw [e, decide_eq_false hc]; rfl, fun i hi => ?_⟩
  have := hb i _ hi (List.getElem?_eq_getElem (Nat.lt_trans hi hj))
  rw [decide_eq_true this]
  decide
theorem wrong_no {z : Str} (hb : ∀ i d, i < z.length → (cs z)[i]? = some d → d ∈ cs ALL) : wrong z = none := by
  unfold wrong
  rw [List.findIdx?_eq_none_iff]
  intro c hc
  obtain ⟨i, hi⟩ := List.mem_iff_getElem?.mp hc
  have := hb i c (by rw [← cs_len]; exact (List.getElem?_eq_some_iff.mp hi).1) hi
  rw [decide_eq_true this]
  rfl
theorem run_ok {ok : Nat → Bool} : ∀ {l : List Nat} {i d : Nat}, i < runLen ok l → l[i]? = some d → ok d = true
  | [], i, d, h, e => by simp at e
  | c :: r, i, d, h, e => by
    by_cases hc : ok c = true
    · cases i with
      | zero =>
        have e2 : c = d := Option.some.inj e
        rw [← e2]
        exact hc
      | succ i =>
        have h2 : runLen ok (c :: r) = runLen ok r + 1 := if_pos hc
        rw [h2] at h
        exact run_ok (l := r) (i := i) (by omega) e
    · have h2 : runLen ok (c :: r) = 0 := if_neg hc
      rw [h2] at h
      omega
/-- the signs of a token belong to something -/
theorem over_ok {z : Str} {j c : Nat} (h : (cs z)[j]? = some c) (hc : c ∈ cs ALL) {i d : Nat} (h1 : j ≤ i) (h2 : i < over z j c) (e : (cs z)[i]? = some d) : d ∈ cs ALL := by
  have key : ∀ ok : Nat → Bool, i < j + runLen ok ((cs z).drop j) → ok d = true := fun ok hi => run_ok (l := (cs z).drop j) (i := i - j) (by omega) (by rw [List.getElem?_drop]; rw [show j + (i - j) = i by omega]; exact e)
  unfold over at h2
  split at h2
  · have := of_decide_eq_true (key (fun c => decide (c ∈ cs (LET ++ DIG))) h2)
    rcases mem_ld.mp this with z | z
    · exact mem_all.mpr (.inl z)
    · exact mem_all.mpr (.inr (.inl z))
  · split at h2
    · exact mem_all.mpr (.inr (.inl (of_decide_eq_true (key (fun c => decide (c ∈ cs DIG)) h2))))
    · have : i = j := by omega
      subst this
      rw [h] at e
      rw [← Option.some.inj e]
      exact hc
theorem toks_end {z : Str} {row : Int} {n j : Nat} {g : Bool} (h : z.length ≤ j) : toks z row n j g = [] := by
  cases n with
  | zero => rfl
  | succ n =>
    unfold toks
    rw [List.getElem?_eq_none (by rw [cs_len]; exact h)]
theorem toks_sp {z : Str} {row : Int} {n j c : Nat} {g : Bool} (h : (cs z)[j]? = some c) (hc : c = 32) : toks z row (n + 1) j g = toks z row n (j + 1) false := by
  rw [toks, h]
  exact if_pos hc
theorem toks_tok {z : Str} {row : Int} {n j c : Nat} {g : Bool} (h : (cs z)[j]? = some c) (hc : c ≠ 32) : toks z row (n + 1) j g = tokD z row j g c :: toks z row n (over z j c) true := by
  rw [toks, h]
  exact if_neg hc
def lineToks (z : Str) (row : Int) : List PyData := toks z row z.length 0 false
theorem toks_len {z : Str} {row : Int} : ∀ {n j : Nat} {g : Bool}, (toks z row n j g).length ≤ n
  | 0, _, _ => Nat.le_refl _
  | n + 1, j, g => by
    unfold toks
    split
    · exact Nat.zero_le _
    · split
      · exact Nat.le_succ_of_le toks_len
      · exact Nat.succ_le_succ toks_len
theorem im_tok {H : Hp} {p : Addr} {z : Str} {row : Int} {j c : Nat} {g : Bool} (h : H p = some (.tup (tokV z row j g c))) : Im H (.ref p) (tokD z row j g c) := .tup h (.cons (.str _) (.cons (.str _) (.cons (.int _) (.cons (.int _) (.cons (.bl _) .nil)))))
end My
namespace My
open PySem PySem.Spec L2
/-! ### several clauses, each with a name: except X as n -/
def wManyAs (K : PySem.W.Frag) (Wout : WX) (D : Ends) : List (Nat × Value × (Addr → Value → Option Addr → TS)) → WX
  | [] => Wout
  | (i, c, ts) :: r => fun cls d σ H => ∃ b, PySem.W.exmOne K cls c = some b ∧ (b = true → ∀ a, H a = none → ts a cls d { nx := fun σ' H' => D.nx (σ'.set i none) H', rt := D.rt, bk := fun σ' H' => D.bk (σ'.set i none) H', ct := fun σ' H' => D.ct (σ'.set i none) H' } (σ.set i (some (.ref a))) H) ∧
      (b = false → wManyAs K Wout D r cls d σ H)
inductive HdsAs (X : Cx) : List ExceptHandler → List (Nat × Value × (Addr → Value → Option Addr → TS)) → Prop
  | nil : HdsAs X [] []
  | cons {x n : Str} {i : Nat} {c : Value} {ts : Addr → Value → Option Addr → TS} {b₀ : Stmt} {suite : List Stmt} {np pos' : Pos} {hds : List ExceptHandler} {l : List (Nat × Value × (Addr → Value → Option Addr → TS))} (hi : X.N[i]? = some n) (hln : X.env.kindOf n = some .local) (hc : Names X x c)
      (hsu : ∀ (a : Addr) (oe : Obj) (cls : Value) (d : Option Addr) (pn : List (Addr × Obj)), Zc cls d oe → (∃ vs, oe.data = .fields vs) → PSs (X.suite a ((a, oe) :: pn)) (b₀ :: suite) (ts a cls d)) (r : HdsAs X hds l) :
      HdsAs X (.ExceptHandler (some (.Name x np)) (some n) (b₀ :: suite) pos' :: hds) ((i, c, ts) :: l)
section
variable {X : Cx} {body : List Stmt} {h₀ : ExceptHandler} {hds : List ExceptHandler} {l : List (Nat × Value × (Addr → Value → Option Addr → TS))} {pos : Pos} {tb : WX → TS} {Wout : WX}
theorem ps_try_manyAs (hs : X.stack = X.env :: X.outer) (hf : X.env.frame = some X.env.locals) (hN : X.N.Nodup) (tk : Takes X Wout)
    (hb : ∀ (W : WX) (pn : List (Addr × Obj)) (xe : Value → Shared → Prop), Takes (X.tr pn xe) W → PassesOwn (model X.prog X.w) X.A X.env xe → PSs (X.tr pn xe) body (tb W))
    (hh : HdsAs X (h₀ :: hds) l) : PS X (.Try body (h₀ :: hds) [] [] pos) (fun D σ H => tb (wManyAs X.K Wout D l) D σ H) := by
  refine ⟨fun pins s σ H D I h => ?_⟩
  have ok := I.ok
  have hfr : X.A.frames = some (X.env :: X.outer) := by rw [ok.frames, hs]
  refine wpAny_Try_except ?_
  refine wpAny_mono ((hb (wManyAs X.K Wout D l) (X.pn ++ pins) (fun e s₁ => wpAny (model X.prog X.w) X.A (noteFrame e X.env) (fun _ s₂ => wpAny (model X.prog X.w) X.A (setFlight e none) (fun _ s₃ =>
    wpAny (model X.prog X.w) X.A (handleBy e X.env (h₀ :: hds)) (SP X pins D) X.xe s₃) X.xe s₂) X.xe s₁) (fun u s' xx => ?_) PassesOwn.looking).run [] s σ H D (I.toTry _) h) (fun f s1 hsp => ?_) (fun e s1 he => he)
  · obtain ⟨a, B, sI, pins', σ', H', cls, d, rfl, J', nb, up, sky, na, os, ag, w⟩ := xx
    have J : Inv X pins σ' H' sI := J'.ofTry ok
    have sky' : Sky B (X.env :: X.outer) a (Zc cls d) X.env.locals s'.heap := by rw [← hs]; exact sky
    show wpAny (model X.prog X.w) X.A (noteFrame (.ref a) X.env) _ _ _
    refine Sky.land Zc.steady hfr hf sky' fun h3 fl3 up3 => ?_
    have J3 : Inv X pins σ' H' { s' with heap := h3 } := J.landed nb fl3.1 (up.trans up3) os ag
    obtain ⟨oe3, vs3, he3, hz3, hd3⟩ := fl3.there
    have nfr : a ∉ frs (X.env :: X.outer) := fun hm => by
      obtain ⟨_, o', e', hnf⟩ := fl3.2.2.1.mem hm
      rw [he3] at e'
      cases e'
      exact hnf _ hd3
    have nL : a ≠ X.env.locals := fun z => nfr (List.mem_filterMap.mpr ⟨X.env, List.mem_cons_self, by rw [hf, z]⟩)
    have nF : a ∉ X.fs := fun hm => by
      obtain ⟨e, he, q⟩ := List.mem_filterMap.mp hm
      exact nfr (List.mem_filterMap.mpr ⟨e, List.mem_cons_of_mem _ he, q⟩)
    have S3 := J3.suite he3 hd3 na nL nF
    have go : ∀ {hds' : List ExceptHandler} {l' : List (Nat × Value × (Addr → Value → Option Addr → TS))}, HdsAs X hds' l' → wManyAs X.K Wout D l' cls d σ' H' →
        wpAny (model X.prog X.w) X.A (handleBy (.ref a) X.env hds') (SP X pins D) X.xe { s' with heap := h3 } := by
      intro hds' l' hk
      induction hk with
      | nil =>
        intro w
        refine wpAny_handleBy_nil ?_
        obtain ⟨k1, k2, k3, oe, vs, T, oT, ts', he, hz, hd, h1, hr⟩ := id fl3
        unfold PySem.passOn
        refine wpAny_bind (wpAny_field he hd h1 ?_)
        rw [if_neg (show ¬ ((Value.ref T == Value.none) = true) from by simp)]
        have fin : wpAny (model X.prog X.w) X.A (setFlight (.ref a) X.env.frame) (fun _ s4 => wpAny (model X.prog X.w) X.A (throw (.ref a) : Sem Flow) (SP X pins D) X.xe s4) X.xe { s' with heap := h3 } := by
          rw [hf]
          refine HandSPX.setFlight_upZ fl3 fun h4 hh4 up4 => wpAny_throw (tk _ _ ?_)
          exact ⟨a, B, sI, pins, σ', H', cls, d, rfl, J, nb, (up.trans up3).trans up4, .inr (.inr (by rw [hs]; exact hh4)), na, os, ag, w⟩
        first
          | exact wpAny_bind (wpAny_pure (wpAny_bind fin))
          | exact wpAny_bind fin
      | @cons x n i c ts b₀ suite np pos' hds2 l2 hi hln hc hsu r ih =>
        intro w
        obtain ⟨b, hb1, hyes, hno⟩ := w
        refine wpAny_handleBy_cons (codeAny_handlers_test ?_) (by intro q; cases q)
        have LT : PySem.W.Looks (model X.prog X.w) h3 (typeOf (.ref a)) cls := fun A Q E s k q => wpAny_typeOf_ref (k _ _ he3) (by rw [hz3.1]; exact q)
        have LM := PySem.W.exm_one (M := model X.prog X.w) (J3.kIn) LT hb1
        have test : ∀ {Q : Value → Shared → Prop} {E : Value → Shared → Prop}, Q c { s' with heap := h3 } → wpAny (model X.prog X.w) (X.A.mark (some (.ref a))) (eval (.Name x np) X.env) Q E { s' with heap := h3 } := fun {Q E} q => by
          obtain ⟨hg, hdbg, hm | ⟨hm, hv, hnn⟩⟩ := hc
          · exact ld_glob (X := X.suite a ((a, oe3) :: (X.pn ++ pins))) S3 hg hm q hdbg
          · exact ld_blt (X := X.suite a ((a, oe3) :: (X.pn ++ pins))) S3 hg hm hv q hnn hdbg
        refine test (LM.here ?_)
        cases b with
        | true =>
          refine codeAny_handlers_suite_as ?_
          refine HandSPX.lands_againZ fl3 fun h4 fl4 up4 => ?_
          have J4 : Inv X pins σ' H' { s' with heap := h4 } := J.landed nb fl4.1 ((up.trans up3).trans up4) os ag
          obtain ⟨oe4, vs4, he4, hz4, hd4⟩ := fl4.there
          have S4 := J4.suite he4 hd4 na nL nF
          refine store_ok (X := X.suite a ((a, oe4) :: (X.pn ++ pins))) (v := .ref a) S4 hN hi (.inl hln) rfl (fun s5 S5 => ?_) (.inr hln)
          refine wpAny_mono ((hsu a oe4 cls d (X.pn ++ pins) hz4 ⟨_, hd4⟩).run [] s5 _ H' _ S5 (hyes rfl a na)) (fun f s6 hsp => ?_) (fun _ _ z => False.elim z)
          have fin : ∀ {σ6 : L2.St} {H6 : Hp} {Q : Shared → Prop}, Inv (X.suite a ((a, oe4) :: (X.pn ++ pins))) [] σ6 H6 s6 → (∀ s7, Inv X pins (σ6.set i none) H6 s7 → Q s7) →
              wpAny (model X.prog X.w) X.A (do bindName X.env n .none; unbindBehindTheSuite X.env n pos') (fun _ s7 => Q s7) X.xe s6 := fun {σ6 H6 Q} S6 hq => gone_ok (S6.unsuite ok) hN hi hln hq
          cases f with
          | next =>
            obtain ⟨σ6, H6, S6, q6⟩ := hsp
            exact fin S6 fun s7 J7 => ⟨_, _, J7, q6⟩
          | brk =>
            obtain ⟨σ6, H6, S6, q6⟩ := hsp
            exact fin S6 fun s7 J7 => ⟨_, _, J7, q6⟩
          | cont =>
            obtain ⟨σ6, H6, S6, q6⟩ := hsp
            exact fin S6 fun s7 J7 => ⟨_, _, J7, q6⟩
          | ret u =>
            obtain ⟨v6, σ6, H6, S6, r6, q6⟩ := hsp
            exact fin S6 fun s7 J7 => ⟨_, _, _, J7, r6, q6⟩
        | false =>
          show wpAny _ X.A (handleBy (.ref a) X.env hds2) _ _ _
          exact ih (hno rfl)
    exact go hh w
  · cases f with
    | next =>
      obtain ⟨σ', H', J', q⟩ := hsp
      exact wpAny_execs_nil ⟨σ', H', J'.ofTry ok, q⟩
    | brk =>
      obtain ⟨σ', H', J', q⟩ := hsp
      exact ⟨σ', H', J'.ofTry ok, q⟩
    | cont =>
      obtain ⟨σ', H', J', q⟩ := hsp
      exact ⟨σ', H', J'.ofTry ok, q⟩
    | ret u =>
      obtain ⟨v, σ', H', J', r, q⟩ := hsp
      exact ⟨v, σ', H', J'.ofTry ok, r, q⟩
end
/-! ### isinstance(e, c), e the caught exception: with or without its own dict; its class cls is told in the reading -/
structure ExcTell (K : PySem.W.Frag) (D : Addr) (cv : Value) (b : Bool) : Prop where
  c : ExcC K D
  e : PySem.W.kitOne K (.ref D) cv = some b
def rIsX (K : PySem.W.Frag) (a : Addr) (cls : Value) (d : Option Addr) : List V → Hp → VK → Prop := fun xs H Q => ∃ (D C : Addr) (b : Bool), cls = .ref D ∧ xs = [.ref a, .ref C] ∧ ExcTell K D (.ref C) b ∧ (∀ dd, d = some dd → ∃ fs, H dd = some (.xd fs)) ∧ Q (.bl b) H
theorem call_isX {X : Cx} {a : Addr} {cls : Value} {d : Option Addr} {oe : Obj} {pn : List (Addr × Obj)} (hz : Zc cls d oe) (hf : ∃ vs, oe.data = .fields vs) : CallR (X.suite a ((a, oe) :: pn)) (.builtin "isinstance") (rIsX X.K a cls d) := by
  intro pins s σ H xs us Q I r h
  obtain ⟨D, C, b, rfl, rfl, T, hdd, q⟩ := h
  cases r with
  | cons rx rr =>
    cases rr with
    | cons rt rr =>
      cases rr
      cases rx
      cases rt
      obtain ⟨hget, _⟩ := I.pin (a, oe) (List.mem_append.mpr (.inl List.mem_cons_self))
      obtain ⟨vs, hv⟩ := hf
      have hnc : PySem.W.notCls oe = true := by unfold PySem.W.notCls; rw [hv] <;> rfl
      have J : ∃ od, PySem.W.InstAt s.heap a oe D od := by
        cases d with
        | none => exact ⟨none, hget, hz.1, hnc, by rw [hz.2]; trivial⟩
        | some dd =>
          obtain ⟨fs, hx⟩ := hdd dd rfl
          obtain ⟨mA, ⟨o, _, _, ho, _⟩, _⟩ := (show ObjOk X.prog X.w H s.heap dd (.xd fs) from I.hok dd _ hx)
          exact ⟨some o, hget, hz.1, hnc, by rw [hz.2]; exact ho⟩
      obtain ⟨od, J⟩ := J
      have Cc := T.c
      obtain ⟨cd, hcd, _⟩ := PySem.W.any_some Cc.hd
      exact PySem.W.kia_one (PySem.W.kitx_exc (od := od) (by rw [hcd]; rfl) Cc.hg Cc.hk Cc.hs Cc.ha Cc.hn Cc.ht Cc.hm) I.kIn J T.e (fun z => nomatch z) fun tk => ⟨.bl b, H, I.kept (t' := tk) fun _ _ z => z, rfl, q⟩
theorem x_isX {K : PySem.W.Frag} {a D C : Addr} {b : Bool} {d : Option Addr} {H : Hp} {Q : VK} (T : ExcTell K D (.ref C) b) (hd : ∀ dd, d = some dd → ∃ fs, H dd = some (.xd fs)) (k : Q (.bl b) H) : rIsX K a (.ref D) d [.ref a, .ref C] H Q := ⟨D, C, b, rfl, rfl, T, hd, k⟩
end My
namespace My
open PySem PySem.Spec L2
local macro_rules | `(tactic| walk_at "fact") => `(tactic| first | assumption | exact sqL (by assumption) | exact sqL upd_same | exact Fr.sql (by assumption) (by assumption))
local macro_rules | `(tactic| walk_at "hfact") => `(tactic| first | assumption | exact upd_same)
local macro_rules | `(tactic| walk_at "kit") => `(tactic| first
  | exact kb_bool_tuple | exact kb_bool_list | exact kb_bool_dict | exact kb_bool_bool | exact kb_bool_int | exact kb_bool_str | exact kb_int_tuple | exact kb_int_list | exact kb_int_dict | exact kb_int_bool | exact kb_int_int | exact kb_int_str
  | exact kb_str_tuple | exact kb_str_list | exact kb_str_dict | exact kb_str_bool | exact kb_str_int | exact kb_str_str | exact kb_none_tuple | exact kb_none_list | exact kb_none_dict | exact kb_none_bool | exact kb_none_int | exact kb_none_str
  | exact kb_tuple_tuple | exact kb_tuple_list | exact kb_tuple_dict | exact kb_tuple_bool | exact kb_tuple_int | exact kb_tuple_str | exact kb_list_tuple | exact kb_list_list | exact kb_list_dict | exact kb_list_bool | exact kb_list_int | exact kb_list_str
  | exact kb_dict_tuple | exact kb_dict_list | exact kb_dict_dict)
local macro_rules | `(tactic| walk_at "go1") => `(tactic| first
  | with_reducible refine x_var rfl ?_ | with_reducible refine x_c ?_ | with_reducible refine x_seq ?_ | with_reducible refine x_asg ?_ | with_reducible refine x_gname ?_ | with_reducible refine x_op ?_
  | with_reducible refine x_rI0 ?_ | with_reducible refine x_eqI ?_ | with_reducible refine x_eqS ?_ | with_reducible refine x_eqB ?_ | with_reducible refine x_neI ?_ | with_reducible refine x_neS ?_ | with_reducible refine x_test ?_ | with_reducible refine x_tB ?_ | with_reducible refine x_bl ?_
  | with_reducible refine x_if ?_ | with_reducible refine x_and ?_ | with_reducible refine x_or ?_ | with_reducible refine x_not ?_ | with_reducible refine x_andV ?_ | with_reducible refine x_orV ?_ | with_reducible refine x_notV ?_ | with_reducible refine x_ifE ?_ | with_reducible refine x_chain ?_
  | with_reducible refine x_cons ?_ | with_reducible refine x_nil ?_ | with_reducible refine x_cb ?_ | with_reducible refine x_got ?_ | with_reducible refine x_un ?_ | with_reducible refine x_rU ?_ | with_reducible refine x_int1 ?_
  | with_reducible refine x_ret ?_ | with_reducible refine x_retN ?_ | with_reducible refine x_next ?_ | with_reducible refine x_drop ?_ | with_reducible refine x_aug rfl ?_ | with_reducible refine x_ipI ?_ | with_reducible refine x_gsub ?_
  | with_reducible refine x_break ?_ | with_reducible refine x_cont ?_ | with_reducible refine x_slice ?_ | with_reducible refine x_noPart ?_ | with_reducible refine x_part ?_ | with_reducible refine x_int ?_ | with_reducible refine x_bm ?_ | with_reducible refine x_bm0 ?_
  | with_reducible refine x_tupQ ?_ | with_reducible refine x_lstQ ?_ | with_reducible refine x_inC ?_ | with_reducible refine x_notInC ?_ | with_reducible refine x_T ?_ | with_reducible refine x_F ?_ | with_reducible refine x_nT ?_ | with_reducible refine x_nF ?_
  | with_reducible refine x_for ?_ | with_reducible refine x_iR1 ?_ | with_reducible refine x_iL ?_ | with_reducible refine x_iT ?_ | with_reducible refine x_iE ?_ | with_reducible refine x_gcons ?_ | with_reducible refine x_gnil ?_ | with_reducible refine x_gtup (by walk_at "hfact") rfl ?_
  | with_reducible refine x_raiseBad ?_ | with_reducible refine x_raiseOwn ?_ | with_reducible refine x_isX (by assumption) (by assumption) ?_
  | with_reducible refine x_turn ?_ | with_reducible refine x_mulR (by decide) ?_ | with_reducible refine x_mulL (by decide) ?_ | with_reducible refine x_mod (by decide) ?_ | with_reducible refine x_div (by decide) ?_
  | with_reducible refine x_ixL (by walk_at "fact") rfl ?_ | with_reducible refine x_lenL (by walk_at "fact") ?_ | with_reducible refine x_lenS (by assumption) ?_ | with_reducible refine x_slS (by assumption) ?_ | with_reducible refine x_ixT (by walk_at "hfact") rfl ?_ | with_reducible refine x_ixT' (by walk_at "hfact") rfl ?_ | with_reducible refine x_tyL (by walk_at "hfact") ?_ | with_reducible refine x_setL (by walk_at "hfact") rfl ?_
  | with_reducible refine x_isi tx_bl (by walk_at "kit") ?_ | with_reducible refine x_isi tx_int (by walk_at "kit") ?_ | with_reducible refine x_isi tx_str (by walk_at "kit") ?_ | with_reducible refine x_isi tx_non (by walk_at "kit") ?_ | with_reducible refine x_isi (tx_tup (by walk_at "hfact")) (by walk_at "kit") ?_ | with_reducible refine x_isi (tx_lst (by walk_at "hfact")) (by walk_at "kit") ?_
  | with_reducible refine x_lc ?_ | with_reducible refine x_yes ?_ | with_reducible refine x_gotS ?_ | with_reducible refine x_lenT (by walk_at "hfact") ?_ | with_reducible refine x_tru ?_ | with_reducible refine x_trB ?_)
local macro_rules | `(tactic| walk_at "go") => `(tactic| repeat walk_at "go1")

section
variable {P : Program} {w : World} {K : PySem.W.Frag} {mg : Str → Option Value} {base : Heap} {f : Addr} {fd : FuncData} {CX : CXT} {C fI cc cda : Addr}
theorem sc_law_tokens : FnScope ["text", "row", "letters", "digits", "found", "at", "last", "turn", "over", "kind"] ["text", "row"] (defScope s_law_tokens) := ⟨rfl, rfl, rfl, by decide +kernel, rfl, by decide +kernel, by decide +kernel⟩
theorem sc_token_at : FnScope ["text", "row", "column", "glued", "sign"] ["text", "row", "column", "glued"] (defScope s_token_at) := ⟨rfl, rfl, rfl, by decide +kernel, rfl, by decide +kernel, by decide +kernel⟩
theorem sc_tokens_of : FnScope ["text", "row", "found", "column", "glued", "token"] ["text", "row"] (defScope s_tokens_of) := ⟨rfl, rfl, rfl, by decide +kernel, rfl, by decide +kernel, by decide +kernel⟩
def spWrong : Sp := fun vs H Q _ => ∃ z : Str, vs = [.str z] ∧ z.length ≤ 100000 ∧ Q (.int (wrongI z)) H
theorem ok_wrong (T : Txt K mg) (F : Fun K "_law_wrong" "_law_wrong" s_law_wrong f fd) : FnOk P w K mg base CX0 1 f fd ["text"] spWrong := by
  refine F.ok sc_law_wrong (fun vs H Q E h => ?_) (fun cdv A outer s H vs Q E hr h => ?_)
  · obtain ⟨z, rfl, _⟩ := h
    rfl
  · obtain ⟨z, rfl, hz, k⟩ := h
    refine ⟨_, (pss_cons (ps_set (i := 1) sc_law_wrong.nd rfl (Or.inl rfl) pe_str)
      (pss_cons (ps_for PassesOwn.never rfl (pi_range1 rfl T.n_range (pa_cons (pe_callB y_lenS (by rfl) T.n_len PySem.boot_len (pa_cons (pv 0) pa_nil)) pa_nil)) (pg_name (i := 2) sc_law_wrong.nd rfl (Or.inl rfl)) (pss_one (ps_if (pt_cmpR y_notInC (pe_ix ix_str (pv 0) (pv 2) (fun _ _ => rfl)) (pv 1) (by rfl)) (pss_one (ps_ret (pv 2))) pss_nil)))
      (pss_one (ps_ret (pe_un un_neg pe_int))))), ?_⟩
    walk_at "go"
    refine x_rng (n := z.length) (by omega) ?_
    refine x_loopN (fun i σ' H' => σ' = [some (.str z), some (.str ALL), σ'.getD 2 none] ∧ H' = H ∧ ∀ k d, k < i → (cs z)[k]? = some d → d ∈ cs ALL) ⟨rfl, rfl, fun k d h => absurd h (Nat.not_lt_zero _)⟩ ?_ ?_
    · rintro i σ' H' hi ⟨eσ, rfl, hb⟩
      rw [eσ]
      obtain ⟨c, hc, _⟩ := at_cs hi
      walk_at "go"
      refine x_ixS hz (atI_nat hc) ?_
      walk_at "go"
      refine x_ndec (fun h => ?_) (fun h => ?_)
      · walk_at "go"
        have e := wrong_at hc h hb
        unfold wrongI at k
        rw [e] at k
        exact k
      · walk_at "go"
        refine ⟨rfl, rfl, fun k d hk e => ?_⟩
        by_cases hki : k < i
        · exact hb k d hki e
        · have : k = i := by omega
          subst this
          rw [hc] at e
          rw [← Option.some.inj e]
          exact h
    · rintro σ' H' ⟨eσ, rfl, hb⟩
      walk_at "go"
      have e := wrong_no hb
      unfold wrongI at k
      rw [e] at k
      exact k
def spTokenAt (C : Addr) : Sp := fun vs H Q E => ∃ (z : Str) (row : Int) (j c : Nat) (g : Bool), vs = [.str z, .int row, .int (j : Int), .bl g] ∧ (cs z)[j]? = some c ∧ z.length ≤ 100000 ∧ c ≠ 32 ∧
  (c ∈ cs ALL → ∀ p H', H p = none → Fr [] H H' → H' p = some (.tup (tokV z row j g c)) → Q (.ref p) H') ∧
  (c ∉ cs ALL → ∀ d H', H d = none → Fr [] H H' → H' d = some (.xd [(("column" : Str), .int (j : Int)), (("row" : Str), .int row)]) → E (.ref C) (some d) H')
theorem ok_token_at (T : Txt K mg) (TB : PySem.BadX.BadTxt P K mg C fI cc cda) (g_end_of : Got P w K mg base CX0 "end_of" 1 ["text", "begin", "signs"] spRun) (F : Fun K "token_at" "token_at" s_token_at f fd) : FnOk P w K mg base (L2.CX P w) 4 f fd ["text", "row", "column", "glued"] (spTokenAt C) := by
  refine F.okX sc_token_at (fun vs H Q E h => ?_) (fun cdv A outer s H vs Q E hr h => ?_)
  · obtain ⟨z, row, j, c, g, rfl, _⟩ := h
    rfl
  · obtain ⟨z, row, j, c, g, rfl, hj, hz, hsp, k, e⟩ := h
    refine ⟨_, (pss_cons (ps_set (i := 4) sc_token_at.nd rfl (Or.inl rfl) (pe_ix ix_str (pv 0) (pv 2) (fun _ _ => rfl)))
      (pss_cons (ps_if (pt_cmpR y_inC (pv 4) (pe_gk rfl T.g_LETTERS) (by rfl)) (pss_one (ps_ret (pe_tup (pa_cons pe_str (pa_cons (pe_slice sl_str (pv 0) (po_some (pv 2)) (po_some (pe_got g_end_of (hr.mono (by first | decide | omega)) rfl (pa_cons (pv 0) (pa_cons (pv 2) (pa_cons (pe_op y_addS (pe_gk rfl T.g_LETTERS) (pe_gk rfl T.g_DIGITS)) pa_nil)))))) (pa_cons (pv 1) (pa_cons (pv 2) (pa_cons (pv 3) pa_nil)))))))) pss_nil)
      (pss_cons (ps_if (pt_cmpR y_inC (pv 4) (pe_gk rfl T.g_DIGITS) (by rfl)) (pss_one (ps_ret (pe_tup (pa_cons pe_str (pa_cons (pe_slice sl_str (pv 0) (po_some (pv 2)) (po_some (pe_got g_end_of (hr.mono (by first | decide | omega)) rfl (pa_cons (pv 0) (pa_cons (pv 2) (pa_cons (pe_gk rfl T.g_DIGITS) pa_nil)))))) (pa_cons (pv 1) (pa_cons (pv 2) (pa_cons (pv 3) pa_nil)))))))) pss_nil)
      (pss_cons (ps_if (pt_cmpR y_inC (pv 4) (pe_gk rfl T.g_MARKS) (by rfl)) (pss_one (ps_ret (pe_tup (pa_cons pe_str (pa_cons (pv 4) (pa_cons (pv 1) (pa_cons (pv 2) (pa_cons (pv 3) pa_nil)))))))) pss_nil)
      (pss_one (ps_raiseBad rfl (takes_of rfl rfl rfl rfl) TB hr (pa_cons (pv 1) (pa_cons (pv 2) pa_nil)))))))), ?_⟩
    walk_at "go"
    refine x_ixS hz (atI_nat hj) ?_
    walk_at "go"
    have jl : j ≤ z.length := by
      have := (List.getElem?_eq_some_iff.mp hj).1
      rw [cs_len] at this
      omega
    refine x_dec (fun h => ?_) (fun h => ?_)
    · walk_at "go"
      refine x_addS (by decide +kernel) ?_
      walk_at "go"
      refine ⟨z, j, _, rfl, jl, hz, ?_⟩
      walk_at "go"
      refine x_newT (by rfl) (fun p H' np fr hp => ?_)
      refine k (mem_all.mpr (.inl h)) p H' np fr ?_
      unfold tokV kind piece over
      rw [if_pos h, if_pos h]
      exact hp
    · walk_at "go"
      refine x_dec (fun h2 => ?_) (fun h2 => ?_)
      · walk_at "go"
        refine ⟨z, j, _, rfl, jl, hz, ?_⟩
        walk_at "go"
        refine x_newT (by rfl) (fun p H' np fr hp => ?_)
        refine k (mem_all.mpr (.inr (.inl h2))) p H' np fr ?_
        unfold tokV kind piece over
        rw [if_neg h, if_neg h, if_pos h2, if_pos h2]
        exact hp
      · walk_at "go"
        refine x_dec (fun h3 => ?_) (fun h3 => ?_)
        · walk_at "go"
          refine x_newT (by rfl) (fun p H' np fr hp => ?_)
          refine k (mem_all.mpr (.inr (.inr (.inl h3)))) p H' np fr ?_
          unfold tokV kind piece over
          rw [if_neg h, if_neg h, if_neg h2, if_neg h2, cut_one hj]
          exact hp
        · walk_at "go"
          refine ⟨_, _, rfl, fun d hd => ?_⟩
          refine e (fun z => ?_) d _ hd (Fr.new hd) upd_same
          rcases mem_all.mp z with z | z | z | z
          · exact h z
          · exact h2 z
          · exact h3 z
          · exact hsp z
def spToksOf (C : Addr) : Sp := fun vs H Q E => ∃ (z : Str) (row : Int), vs = [.str z, .int row] ∧ z.length ≤ 100000 ∧
  (wrong z = none → ∀ l xs H', H l = none → Fr [] H H' → H' l = some (.lst xs) → ImAll H' xs (lineToks z row) → Q (.ref l) H') ∧
  (∀ p : Nat, wrong z = some p → ∀ d H', H d = none → Fr [] H H' → H' d = some (.xd [(("column" : Str), .int (p : Int)), (("row" : Str), .int row)]) → E (.ref C) (some d) H')
theorem ok_tokens_of (T : Txt K mg) (g_token_at : Got P w K mg base (L2.CX P w) "token_at" 4 ["text", "row", "column", "glued"] (spTokenAt C)) (F : Fun K "tokens_of" "tokens_of" s_tokens_of f fd) : FnOk P w K mg base (L2.CX P w) 5 f fd ["text", "row"] (spToksOf C) := by
  refine F.okX sc_tokens_of (fun vs H Q E h => ?_) (fun cdv A outer s H vs Q E hr h => ?_)
  · obtain ⟨z, row, rfl, _⟩ := h
    rfl
  · obtain ⟨z, row, rfl, hz, k, e⟩ := h
    refine ⟨_, (pss_cons (ps_set (i := 2) sc_tokens_of.nd rfl (Or.inl rfl) (pe_lst pa_nil))
      (pss_cons (ps_set (i := 3) sc_tokens_of.nd rfl (Or.inl rfl) pe_int)
      (pss_cons (ps_set (i := 4) sc_tokens_of.nd rfl (Or.inl rfl) pe_bl)
      (pss_cons (ps_while (passes_of rfl) (pt_cmpR op_lt (pv 3) (pe_callB y_lenS (by rfl) T.n_len PySem.boot_len (pa_cons (pv 0) pa_nil)) (nomark _)) (pss_one (ps_if (pt_cmpR op_eq (pe_ix ix_str (pv 0) (pv 3) (fun _ _ => rfl)) pe_str (nomark _)) (pss_cons (ps_aug (i := 3) sc_tokens_of.nd rfl (Or.inl rfl) pe_int ip_add)
      (pss_one (ps_set (i := 4) sc_tokens_of.nd rfl (Or.inl rfl) pe_bl))) (pss_cons (ps_set (i := 5) sc_tokens_of.nd rfl (Or.inl rfl) (pe_gotE g_token_at (hr.mono (by first | decide | omega)) (passes_call (takes_of rfl rfl rfl rfl) (fun _ _ _ _ h => h)) rfl (pa_cons (pv 0) (pa_cons (pv 1) (pa_cons (pv 3) (pa_cons (pv 4) pa_nil))))))
      (pss_cons (ps_expr (pe_bm PySem.F.plainAttrs_list PySem.F.slot_list_append PySem.F.type_list_append mt_append (pv 2) (pa_cons (pv 5) pa_nil)))
      (pss_cons (ps_aug (i := 3) sc_tokens_of.nd rfl (Or.inl rfl) (pe_callB y_lenS (by rfl) T.n_len PySem.boot_len (pa_cons (pe_ix ix_tup (pv 5) pe_int (fun _ _ => rfl)) pa_nil)) ip_add)
      (pss_one (ps_set (i := 4) sc_tokens_of.nd rfl (Or.inl rfl) pe_bl))))))))
      (pss_one (ps_ret (pv 2))))))), ?_⟩
    walk_at "go"
    refine x_newL (by rfl) (fun l H0 nl fr0 hl0 => ?_)
    walk_at "go"
    refine x_while (fun m σ' H' => ∃ (j n : Nat) (g : Bool) (xs : List V) (ds : List PyData) (y : Option V), m = z.length - j ∧ z.length - j ≤ n ∧ σ' = [some (.str z), some (.int row), some (.ref l), some (.int (j : Int)), some (.bl g), y] ∧ Fr [] H H' ∧
      H' l = some (.lst xs) ∧ ImAll H' xs ds ∧ ds ++ toks z row n j g = lineToks z row ∧ (∀ i d, i < j → (cs z)[i]? = some d → d ∈ cs ALL) ∧ xs.length ≤ j) _
      ⟨0, z.length, false, [], [], none, rfl, Nat.le_refl _, rfl, fr0, hl0, .nil, rfl, fun i d h => absurd h (Nat.not_lt_zero _), Nat.le_refl _⟩ ?_
    rintro m σ' H' ⟨j, n, g, xs, ds, y, rfl, hn, rfl, fr, hl, im, et, hb, hxs⟩
    walk_at "go"
    refine x_dec (fun hlt => ?_) (fun hlt => ?_)
    · have hj : j < z.length := by omega
      obtain ⟨c, hc, _⟩ := at_cs hj
      obtain ⟨n, rfl⟩ : ∃ n', n = n' + 1 := ⟨n - 1, by omega⟩
      walk_at "go"
      refine x_ixS hz (atI_nat hc) ?_
      walk_at "go"
      refine x_dec (fun h => ?_) (fun h => ?_)
      · have h32 := space_eq.mp h
        walk_at "go"
        refine ⟨_, ?_, j + 1, n, false, xs, ds, y, rfl, by omega, rfl, fr, hl, im, ?_, fun i d hi e => ?_, by omega⟩
        · omega
        · rw [toks_sp hc h32] at et
          exact et
        · by_cases hij : i < j
          · exact hb i d hij e
          · have : i = j := by omega
            subst this
            rw [hc] at e
            rw [← Option.some.inj e, h32]
            exact mem_all.mpr (.inr (.inr (.inr rfl)))
      · have h32 : c ≠ 32 := fun z => h (space_eq.mpr z)
        walk_at "go"
        refine ⟨z, row, j, c, g, rfl, hc, hz, h32, fun hA p H1 np fr1 hp => ?_, fun hA d H1 nd fr1 hd => ?_⟩
        · walk_at "go"
          have hl1 : H1 l = some (.lst xs) := fr1.lst hl
          refine ⟨.inl ⟨rfl, _, sqL hl1⟩, ?_⟩
          walk_at "go"
          refine x_app hl1 (by omega) (fun H2 fr2 hl2 => ?_)
          walk_at "go"
          have hp2 := fr2.tup hp
          have pl := piece_len hc
          have ol := over_le hc
          have og := over_gt hc
          refine x_ixT hp2 rfl ?_
          walk_at "go"
          refine x_lenS (by omega) ?_
          walk_at "go"
          have fr3 : Fr [] H H2 := ((fr.trans fr1).drop fr2 nl)
          refine ⟨_, ?_, over z j c, n, true, xs ++ [.ref p], ds ++ [tokD z row j g c], some (.ref p), rfl, by omega, ?_, fr3, hl2, ((im.fr fr1).snoc (im_tok hp)).fr fr2, ?_, fun i d hi e => ?_, ?_⟩
          · omega
          · rw [pl]
            have : ((j : Int) + ((over z j c - j : Nat) : Int)) = (over z j c : Int) := by omega
            rw [← this]
            rfl
          · rw [List.append_assoc]
            rw [toks_tok hc h32] at et
            exact et
          · by_cases hij : i < j
            · exact hb i d hij e
            · exact over_ok hc hA (by omega) hi e
          · rw [List.length_append, List.length_singleton]
            omega
        · exact e j (wrong_at hc hA hb) d H1 (fr.free nd) (fr.trans fr1) hd
    · walk_at "go"
      refine k (wrong_no fun i d hi e => hb i d (by omega) e) l xs H' nl fr hl ?_
      rw [toks_end (by omega), List.append_nil] at et
      rw [← et]
      exact im
def spToks : Sp := fun vs H Q E => ∃ (z : Str) (row : Int), vs = [.str z, .int row] ∧ z.length ≤ 100000 ∧ ∀ l xs H', H l = none → Fr [] H H' → H' l = some (.lst xs) → ImAll H' xs (lineToks z row) → Q (.ref l) H'
theorem ok_law_tokens (T : Txt K mg) (g_law_run_of : Got P w K mg base CX0 "_law_run_of" 1 ["text", "at", "signs"] spRun) (F : Fun K "_law_tokens" "_law_tokens" s_law_tokens f fd) : FnOk P w K mg base CX0 2 f fd ["text", "row"] spToks := by
  refine F.ok sc_law_tokens (fun vs H Q E h => ?_) (fun cdv A outer s H vs Q E hr h => ?_)
  · obtain ⟨z, row, rfl, _⟩ := h
    rfl
  · obtain ⟨z, row, rfl, hz, k⟩ := h
    refine ⟨_, (pss_cons (ps_set (i := 2) sc_law_tokens.nd rfl (Or.inl rfl) pe_str)
      (pss_cons (ps_set (i := 3) sc_law_tokens.nd rfl (Or.inl rfl) pe_str)
      (pss_cons (ps_set (i := 4) sc_law_tokens.nd rfl (Or.inl rfl) (pe_lst pa_nil))
      (pss_cons (ps_set (i := 5) sc_law_tokens.nd rfl (Or.inl rfl) pe_int)
      (pss_cons (ps_set (i := 6) sc_law_tokens.nd rfl (Or.inl rfl) (pe_un un_neg pe_int))
      (pss_cons (ps_for PassesOwn.never rfl (pi_range1 rfl T.n_range (pa_cons (pe_callB y_lenS (by rfl) T.n_len PySem.boot_len (pa_cons (pv 0) pa_nil)) pa_nil)) (pg_name (i := 7) sc_law_tokens.nd rfl (Or.inl rfl)) (pss_cons (ps_if (pt_cmpR op_ge (pv 5) (pe_callB y_lenS (by rfl) T.n_len PySem.boot_len (pa_cons (pv 0) pa_nil)) (nomark _)) (pss_one ps_break) pss_nil)
      (pss_cons (ps_if (pt_cmpR op_eq (pe_ix ix_str (pv 0) (pv 5) (fun _ _ => rfl)) pe_str (nomark _)) (pss_cons (ps_set (i := 5) sc_law_tokens.nd rfl (Or.inl rfl) (pe_op op_add (pv 5) pe_int))
      (pss_one ps_continue)) pss_nil)
      (pss_cons (ps_set (i := 8) sc_law_tokens.nd rfl (Or.inl rfl) (pe_op op_add (pv 5) pe_int))
      (pss_cons (ps_set (i := 9) sc_law_tokens.nd rfl (Or.inl rfl) pe_str)
      (Evl.pss_cut (ps_if (pt_cmpR y_inC (pe_ix ix_str (pv 0) (pv 5) (fun _ _ => rfl)) (pv 2) (by rfl)) (pss_cons (ps_set (i := 8) sc_law_tokens.nd rfl (Or.inl rfl) (pe_got g_law_run_of (hr.mono (by first | decide | omega)) rfl (pa_cons (pv 0) (pa_cons (pv 5) (pa_cons (pe_op y_addS (pv 2) (pv 3)) pa_nil)))))
      (pss_one (ps_set (i := 9) sc_law_tokens.nd rfl (Or.inl rfl) pe_str))) (pss_one (ps_if (pt_cmpR y_inC (pe_ix ix_str (pv 0) (pv 5) (fun _ _ => rfl)) (pv 3) (by rfl)) (pss_cons (ps_set (i := 8) sc_law_tokens.nd rfl (Or.inl rfl) (pe_got g_law_run_of (hr.mono (by first | decide | omega)) rfl (pa_cons (pv 0) (pa_cons (pv 5) (pa_cons (pv 3) pa_nil)))))
      (pss_one (ps_set (i := 9) sc_law_tokens.nd rfl (Or.inl rfl) pe_str))) pss_nil)))
      (pss_cons (ps_expr (pe_bm PySem.F.plainAttrs_list PySem.F.slot_list_append PySem.F.type_list_append mt_append (pv 4) (pa_cons (pe_tup (pa_cons (pv 9) (pa_cons (pe_slice sl_str (pv 0) (po_some (pv 5)) (po_some (pv 8))) (pa_cons (pv 1) (pa_cons (pv 5) (pa_cons (pe_cmpR op_eq (pv 6) (pv 5) (nomark _)) pa_nil)))))) pa_nil)))
      (pss_cons (ps_set (i := 5) sc_law_tokens.nd rfl (Or.inl rfl) (pv 8))
      (pss_one (ps_set (i := 6) sc_law_tokens.nd rfl (Or.inl rfl) (pv 8)))))))))))
      (pss_one (ps_ret (pv 4))))))))), ?_⟩
    walk_at "go"
    refine x_newL (by rfl) (fun l H0 nl fr0 hl0 => ?_)
    walk_at "go"
    refine x_rng (n := z.length) (by omega) ?_
    refine x_loopN (fun i σ' H' => ∃ (j : Nat) (last : Int) (g : Bool) (xs : List V) (ds : List PyData) (y1 y2 y3 : Option V), σ' = [some (.str z), some (.int row), some (.str LET), some (.str DIG), some (.ref l), some (.int (j : Int)), some (.int last), y1, y2, y3] ∧
      g = decide (last = (j : Int)) ∧ last ≤ (j : Int) ∧ Fr [] H H' ∧ H' l = some (.lst xs) ∧ ImAll H' xs ds ∧ ds ++ toks z row (z.length - i) j g = lineToks z row ∧ i ≤ j ∧ xs.length ≤ i)
      ⟨0, -1, false, [], [], none, none, none, rfl, rfl, by decide, fr0, hl0, .nil, rfl, Nat.le_refl _, Nat.le_refl _⟩ ?_ ?_
    · rintro i σ' H' hi ⟨j, last, g, xs, ds, y1, y2, y3, rfl, hg, hlast, fr, hl, im, et, hij, hxs⟩
      have cutK : ∀ {H2 : Hp}, Fr [] H H2 → ∀ {us : List V}, H2 l = some (.lst us) → ImAll H2 us (lineToks z row) → Q (.ref l) H2 := fun {H2} a {us} b c => k l us H2 nl a b c
      walk_at "go"
      refine x_dec (fun hge => ?_) (fun hlt => ?_)
      · walk_at "go"
        rw [toks_end (by omega), List.append_nil] at et
        rw [← et] at cutK
        exact cutK fr hl im
      · have hj : j < z.length := by omega
        obtain ⟨c, hc, _⟩ := at_cs hj
        obtain ⟨n, hn⟩ : ∃ n', z.length - i = n' + 1 := ⟨z.length - i - 1, by omega⟩
        have hn2 : z.length - (i + 1) = n := by omega
        rw [hn] at et
        walk_at "go"
        refine x_ixS hz (atI_nat hc) ?_
        walk_at "go"
        refine x_dec (fun h => ?_) (fun h => ?_)
        · have h32 := space_eq.mp h
          walk_at "go"
          refine ⟨j + 1, last, false, xs, ds, _, _, _, rfl, ?_, by omega, fr, hl, im, ?_, by omega, by omega⟩
          · rw [decide_eq_false]
            omega
          · rw [hn2]
            rw [toks_sp hc h32] at et
            exact et
        · have h32 : c ≠ 32 := fun z => h (space_eq.mpr z)
          have jl : j ≤ z.length := by omega
          walk_at "go"
          refine x_cut (fun σ' H1 => H1 = H' ∧ σ' = [some (.str z), some (.int row), some (.str LET), some (.str DIG), some (.ref l), some (.int (j : Int)), some (.int last), σ'.getD 7 none, some (.int (over z j c : Int)), some (.str (kind c))]) ?_ ?_
          · walk_at "go"
            refine x_ixS hz (atI_nat hc) ?_
            walk_at "go"
            refine x_dec (fun h1 => ?_) (fun h1 => ?_)
            · walk_at "go"
              refine x_addS (by decide +kernel) ?_
              walk_at "go"
              refine ⟨z, j, _, rfl, jl, hz, ?_⟩
              walk_at "go"
              refine ⟨rfl, ?_⟩
              unfold over kind
              rw [if_pos h1, if_pos h1]
              rfl
            · walk_at "go"
              refine x_ixS hz (atI_nat hc) ?_
              walk_at "go"
              refine x_dec (fun h2 => ?_) (fun h2 => ?_)
              · walk_at "go"
                refine ⟨z, j, _, rfl, jl, hz, ?_⟩
                walk_at "go"
                refine ⟨rfl, ?_⟩
                unfold over kind
                rw [if_neg h1, if_neg h1, if_pos h2, if_pos h2]
                rfl
              · walk_at "go"
                refine ⟨rfl, ?_⟩
                unfold over kind
                rw [if_neg h1, if_neg h1, if_neg h2, if_neg h2]
                rfl
          · rintro σ' H1 ⟨rfl, eσ⟩
            rw [eσ]
            walk_at "go"
            refine x_newT (by rfl) (fun p H2 np fr2 hp => ?_)
            walk_at "go"
            refine x_app (fr2.lst hl) (by omega) (fun H3 fr3 hl3 => ?_)
            walk_at "go"
            have og := over_gt hc
            refine ⟨over z j c, (over z j c : Int), true, xs ++ [.ref p], ds ++ [tokD z row j g c], _, _, _, rfl, ?_, Int.le_refl _, (fr.trans fr2).drop fr3 nl, hl3, ((im.fr fr2).snoc (im_tok ?_)).fr fr3, ?_, by omega, ?_⟩
            · rw [decide_eq_true rfl]
            · rw [hg]
              exact hp
            · rw [hn2, List.append_assoc]
              rw [toks_tok hc h32] at et
              exact et
            · rw [List.length_append, List.length_singleton]
              omega
    · rintro σ' H' ⟨j, last, g, xs, ds, y1, y2, y3, rfl, hg, hlast, fr, hl, im, et, hij, hxs⟩
      walk_at "go"
      rw [toks_end (by omega), List.append_nil] at et
      rw [← et] at k
      exact k l xs H' nl fr hl im
end
end My
namespace My
open PySem PySem.Spec L2
local macro_rules | `(tactic| walk_at "fact") => `(tactic| first | assumption | exact sqL (by assumption) | exact sqL upd_same | exact Fr.sql (by assumption) (by assumption))
local macro_rules | `(tactic| walk_at "hfact") => `(tactic| first | assumption | exact upd_same)
local macro_rules | `(tactic| walk_at "kit") => `(tactic| first
  | exact kb_bool_tuple | exact kb_bool_list | exact kb_bool_dict | exact kb_bool_bool | exact kb_bool_int | exact kb_bool_str | exact kb_int_tuple | exact kb_int_list | exact kb_int_dict | exact kb_int_bool | exact kb_int_int | exact kb_int_str
  | exact kb_str_tuple | exact kb_str_list | exact kb_str_dict | exact kb_str_bool | exact kb_str_int | exact kb_str_str | exact kb_none_tuple | exact kb_none_list | exact kb_none_dict | exact kb_none_bool | exact kb_none_int | exact kb_none_str
  | exact kb_tuple_tuple | exact kb_tuple_list | exact kb_tuple_dict | exact kb_tuple_bool | exact kb_tuple_int | exact kb_tuple_str | exact kb_list_tuple | exact kb_list_list | exact kb_list_dict | exact kb_list_bool | exact kb_list_int | exact kb_list_str
  | exact kb_dict_tuple | exact kb_dict_list | exact kb_dict_dict)
local macro_rules | `(tactic| walk_at "go1") => `(tactic| first
  | with_reducible refine x_var rfl ?_ | with_reducible refine x_c ?_ | with_reducible refine x_seq ?_ | with_reducible refine x_asg ?_ | with_reducible refine x_gname ?_ | with_reducible refine x_op ?_
  | with_reducible refine x_rI0 ?_ | with_reducible refine x_eqI ?_ | with_reducible refine x_eqS ?_ | with_reducible refine x_eqB ?_ | with_reducible refine x_neI ?_ | with_reducible refine x_neS ?_ | with_reducible refine x_test ?_ | with_reducible refine x_tB ?_ | with_reducible refine x_bl ?_
  | with_reducible refine x_if ?_ | with_reducible refine x_and ?_ | with_reducible refine x_or ?_ | with_reducible refine x_not ?_ | with_reducible refine x_andV ?_ | with_reducible refine x_orV ?_ | with_reducible refine x_notV ?_ | with_reducible refine x_ifE ?_ | with_reducible refine x_chain ?_
  | with_reducible refine x_cons ?_ | with_reducible refine x_nil ?_ | with_reducible refine x_cb ?_ | with_reducible refine x_got ?_ | with_reducible refine x_un ?_ | with_reducible refine x_rU ?_ | with_reducible refine x_int1 ?_
  | with_reducible refine x_ret ?_ | with_reducible refine x_retN ?_ | with_reducible refine x_next ?_ | with_reducible refine x_drop ?_ | with_reducible refine x_aug rfl ?_ | with_reducible refine x_ipI ?_ | with_reducible refine x_gsub ?_
  | with_reducible refine x_break ?_ | with_reducible refine x_cont ?_ | with_reducible refine x_slice ?_ | with_reducible refine x_noPart ?_ | with_reducible refine x_part ?_ | with_reducible refine x_int ?_ | with_reducible refine x_bm ?_ | with_reducible refine x_bm0 ?_
  | with_reducible refine x_tupQ ?_ | with_reducible refine x_lstQ ?_ | with_reducible refine x_inC ?_ | with_reducible refine x_notInC ?_ | with_reducible refine x_T ?_ | with_reducible refine x_F ?_ | with_reducible refine x_nT ?_ | with_reducible refine x_nF ?_
  | with_reducible refine x_for ?_ | with_reducible refine x_iR1 ?_ | with_reducible refine x_iL ?_ | with_reducible refine x_iT ?_ | with_reducible refine x_iE ?_ | with_reducible refine x_gcons ?_ | with_reducible refine x_gnil ?_ | with_reducible refine x_gtup (by walk_at "hfact") rfl ?_
  | with_reducible refine x_raiseBad ?_ | with_reducible refine x_raiseOwn ?_ | with_reducible refine x_isX (by assumption) (by assumption) ?_
  | with_reducible refine x_turn ?_ | with_reducible refine x_mulR (by decide) ?_ | with_reducible refine x_mulL (by decide) ?_ | with_reducible refine x_mod (by decide) ?_ | with_reducible refine x_div (by decide) ?_
  | with_reducible refine x_ixL (by walk_at "fact") rfl ?_ | with_reducible refine x_lenL (by walk_at "fact") ?_ | with_reducible refine x_lenS (by assumption) ?_ | with_reducible refine x_slS (by assumption) ?_ | with_reducible refine x_ixT (by walk_at "hfact") rfl ?_ | with_reducible refine x_ixT' (by walk_at "hfact") rfl ?_ | with_reducible refine x_tyL (by walk_at "hfact") ?_ | with_reducible refine x_setL (by walk_at "hfact") rfl ?_
  | with_reducible refine x_isi tx_bl (by walk_at "kit") ?_ | with_reducible refine x_isi tx_int (by walk_at "kit") ?_ | with_reducible refine x_isi tx_str (by walk_at "kit") ?_ | with_reducible refine x_isi tx_non (by walk_at "kit") ?_ | with_reducible refine x_isi (tx_tup (by walk_at "hfact")) (by walk_at "kit") ?_ | with_reducible refine x_isi (tx_lst (by walk_at "hfact")) (by walk_at "kit") ?_
  | with_reducible refine x_lc ?_ | with_reducible refine x_yes ?_ | with_reducible refine x_gotS ?_ | with_reducible refine x_lenT (by walk_at "hfact") ?_ | with_reducible refine x_tru ?_ | with_reducible refine x_trB ?_)
local macro_rules | `(tactic| walk_at "go") => `(tactic| repeat walk_at "go1")

theorem fnNever {P : Program} {w : World} {K : PySem.W.Frag} {mg : Str → Option Value} {base : Heap} {CX : CXT} {k : Nat} {f : Addr} {fd : FuncData} {ps : List Str} {sp : Sp} (h : ∀ vs H Q E, ¬ sp vs H Q E) : FnOk P w K mg base CX k f fd ps sp :=
  ⟨fun vs H Q E z => (h _ _ _ _ z).elim, fun _ _ _ _ _ _ _ _ _ _ _ _ _ z => (h _ _ _ _ z).elim⟩
theorem Got.of {P : Program} {w : World} {K : PySem.W.Frag} {mg : Str → Option Value} {base : Heap} {CX : CXT} {x qual : Str} {st : Stmt} {k : Nat} {f : Addr} {fd : FuncData} {ps : List Str} {sp : Sp} (F : Fun K x qual st f fd) (hm : mg x = some (.ref f)) (b : Binds K fd ps []) (h : FnOk P w K mg base CX k f fd ps sp) : Got P w K mg base CX x k ps sp :=
  ⟨f, fd, h, hm, F.kp, b⟩
section
variable {K : PySem.W.Frag} {σ : L2.St} {H : Hp} {Q : VK}
theorem x_slL {a : Addr} {xs : List V} {lo hi : Option Int} (h : SqL K H a xs) (k : ∀ p H', H p = none → Fr [] H H' → H' p = some (.lst (cutV xs lo hi)) → Q (.ref p) H') : rSlL K (.ref a) lo hi H Q := ⟨a, xs, rfl, h, fun p hp => k p _ hp (Fr.new hp) upd_same⟩
theorem x_isN {x : V} (k : Q (.bl (decide (x = .non))) H) : rIsN x .non H Q := ⟨rfl, k⟩
end
theorem cut_lo {xs : List V} {n : Nat} (h : n ≤ xs.length) : cutV xs none (some (n : Int)) = xs.take n := by
  unfold cutV
  rw [HT.sIx_none, HT.sIx_nat, List.drop_zero, Nat.sub_zero, Nat.min_eq_left h]
theorem cut_hi {xs : List V} {n : Nat} (h : n ≤ xs.length) : cutV xs (some (n : Int)) none = xs.drop n := by
  unfold cutV
  rw [HT.sIx_none, HT.sIx_nat, Nat.min_eq_left h, List.take_of_length_le (by rw [List.length_drop]; omega)]
/-! ### diagrams -/
inductive Dg
  | leaf (b : Bool)
  | node (i : Nat) (lo hi : Dg)
def Dg.d : Dg → PyData
  | .leaf b => .bool b
  | .node i lo hi => .tuple [.int (i : Int), lo.d, hi.d]
def Dg.ev (cf : Nat → Bool) : Dg → Bool
  | .leaf b => b
  | .node i lo hi => if cf i then hi.ev cf else lo.ev cf
def Dg.dep : Dg → Nat
  | .leaf _ => 0
  | .node _ lo hi => max lo.dep hi.dep + 1
def Dg.ok : Dg → Prop
  | .leaf _ => True
  | .node i lo hi => i < 2 ∧ lo.ok ∧ hi.ok
theorem Dg.im {H : Hp} {v : V} : ∀ {D : Dg}, Im H v D.d → (∃ b, D = .leaf b ∧ v = .bl b) ∨ ∃ i lo hi p a b, D = .node i lo hi ∧ v = .ref p ∧ H p = some (.tup [.int (i : Int), a, b]) ∧ Im H a lo.d ∧ Im H b hi.d
  | .leaf b, h => by
    cases h
    exact .inl ⟨b, rfl, rfl⟩
  | .node i lo hi, h => by
    cases h with
    | @tup p xs _ hp h2 =>
      cases h2 with
      | cons h3 h4 =>
        cases h3
        cases h4 with
        | cons h5 h6 =>
          cases h6 with
          | cons h7 h8 =>
            cases h8
            exact .inr ⟨i, lo, hi, p, _, _, rfl, rfl, hp, h5, h7⟩
theorem Dg.shaped : ∀ D : Dg, D.dep ≤ 64 → SeqAt.shaped D.d = true := by
  have a : ∀ D : Dg, D.d.canLay0 = true ∧ D.d.depth ≤ D.dep := by
    intro D
    induction D with
    | leaf b => exact ⟨by simp [Dg.d, PyData.canLay0], by simp [Dg.d, PyData.depth]⟩
    | node i lo hi h1 h2 =>
      refine ⟨by simp [Dg.d, PyData.canLay0, PyData.canLayAll0, h1.1, h2.1], ?_⟩
      have := h1.2
      have := h2.2
      simp only [Dg.d, PyData.depth, PyData.depthAll, Dg.dep]
      omega
  intro D h
  show (D.d.canLay0 && decide (D.d.depth ≤ 64)) = true
  rw [Bool.and_eq_true]
  exact ⟨(a D).1, decide_eq_true (Nat.le_trans (a D).2 h)⟩
def bi (b : Bool) : Int := if b then 1 else 0
/-- a configuration of two switches -/
def cf (p q : Bool) : Nat → Bool := fun i => if i = 0 then p else q
def cfV (p q : Bool) : List V := [.int (bi p), .int (bi q)]
theorem cf_at {p q : Bool} {i : Nat} (h : i < 2) : atI (cfV p q) (i : Int) = some (.int (bi (cf p q i))) := by
  match i, h with
  | 0, _ => rfl
  | 1, _ => rfl
theorem pick_at {a b c : V} {r : Bool} : atI [a, b, c] (1 + bi r) = some (if r then c else b) := by
  cases r <;> rfl
theorem Dg.pick {H : Hp} {p q : Bool} {i : Nat} {lo hi : Dg} {a b : V} (ok : (Dg.node i lo hi).ok) (ha : Im H a lo.d) (hb : Im H b hi.d) : ∃ E : Dg, E.ok ∧ Im H (if cf p q i then b else a) E.d ∧ E.ev (cf p q) = (Dg.node i lo hi).ev (cf p q) ∧ E.dep < (Dg.node i lo hi).dep := by
  obtain ⟨_, o1, o2⟩ := ok
  have d1 : lo.dep ≤ max lo.dep hi.dep := Nat.le_max_left _ _
  have d2 : hi.dep ≤ max lo.dep hi.dep := Nat.le_max_right _ _
  show ∃ E : Dg, E.ok ∧ Im H (if cf p q i then b else a) E.d ∧ E.ev (cf p q) = (if cf p q i then hi.ev (cf p q) else lo.ev (cf p q)) ∧ E.dep < max lo.dep hi.dep + 1
  cases cf p q i with
  | true => exact ⟨hi, o2, hb, rfl, by omega⟩
  | false => exact ⟨lo, o1, ha, rfl, by omega⟩
section
variable {P : Program} {w : World} {K : PySem.W.Frag} {mg : Str → Option Value} {base : Heap} {f : Addr} {fd : FuncData} {CX : CXT} {C fI cc cda : Addr}
theorem sc_holds : FnScope ["d", "configuration"] ["d", "configuration"] (defScope s_holds) := ⟨rfl, rfl, rfl, by decide +kernel, rfl, by decide +kernel, by decide +kernel⟩
theorem sc_law_at : FnScope ["d", "row", "turn"] ["d", "row"] (defScope s_law_at) := ⟨rfl, rfl, rfl, by decide +kernel, rfl, by decide +kernel, by decide +kernel⟩
theorem sc_law_diagram : FnScope ["bits", "i", "half", "low", "high"] ["bits", "i"] (defScope s_law_diagram) := ⟨rfl, rfl, rfl, by decide +kernel, rfl, by decide +kernel, by decide +kernel⟩
theorem sc_law_like : FnScope ["a", "b", "k", "key"] ["a", "b"] (defScope s_law_like) := ⟨rfl, rfl, rfl, by decide +kernel, rfl, by decide +kernel, by decide +kernel⟩
theorem sc_law_text : FnScope ["tape", "bad", "pieces", "text", "k", "at", "sign"] ["tape", "bad"] (defScope s_law_text) := ⟨rfl, rfl, rfl, by decide +kernel, rfl, by decide +kernel, by decide +kernel⟩
def spHolds : Sp := fun vs H Q _ => ∃ (v : V) (c : Addr) (D : Dg) (p q : Bool), vs = [v, .ref c] ∧ Im H v D.d ∧ D.ok ∧ D.dep ≤ 2 ∧ H c = some (.tup (cfV p q)) ∧ Q (.bl (D.ev (cf p q))) H
theorem ok_holds (T : Txt K mg) (F : Fun K "holds" "holds" s_holds f fd) : FnOk P w K mg base CX0 1 f fd ["d", "configuration"] spHolds := by
  refine F.ok sc_holds (fun vs H Q E h => ?_) (fun cdv A outer s H vs Q E hr h => ?_)
  · obtain ⟨v, c, D, p, q, rfl, _⟩ := h
    rfl
  · obtain ⟨v, c, D, p, q, rfl, im, ok, dp, hc, k⟩ := h
    refine ⟨_, (pss_cons (ps_while PassesOwn.never (pt_val (pe_callB call_isi (by rfl) T.n_isinstance PyProof.Rows.boot_isinstance (pa_cons (pv 0) (pa_cons (pe_bltn (v := .ty "tuple") rfl T.n_tuple PyProof.Rows.boot_tuple rfl) pa_nil)))) (pss_one (ps_set (i := 0) sc_holds.nd rfl (Or.inl rfl) (pe_ix ix_seq (pv 0) (pe_op op_add pe_int (pe_ix ix_tup (pv 1) (pe_ix ix_seq (pv 0) pe_int (fun _ _ => rfl)) (fun _ _ => rfl))) (fun _ _ => rfl)))))
      (pss_one (ps_ret (pv 0)))), ?_⟩
    walk_at "go"
    refine x_while (fun m σ' H' => ∃ (u : V) (E : Dg), m = E.dep ∧ σ' = [some u, some (.ref c)] ∧ H' = H ∧ Im H u E.d ∧ E.ok ∧ E.ev (cf p q) = D.ev (cf p q)) _ ⟨v, D, rfl, rfl, rfl, im, ok, rfl⟩ ?_
    rintro m σ' H' ⟨u, E, rfl, rfl, rfl, im, ok, e⟩
    rcases E.im im with ⟨b, rfl, rfl⟩ | ⟨i, lo, hi, t, a, b, rfl, rfl, ht, ia, ib⟩
    · walk_at "go"
      rw [← e] at k
      exact k
    · walk_at "go"
      refine x_ixT hc (cf_at ok.1) ?_
      walk_at "go"
      refine x_ixT' ht pick_at ?_
      walk_at "go"
      obtain ⟨E, o2, i2, e2, d2⟩ := Dg.pick (p := p) (q := q) ok ia ib
      exact ⟨_, d2, _, E, rfl, rfl, rfl, i2, o2, e2.trans e⟩
theorem ok_at (T : Txt K mg) (F : Fun K "_law_at" "_law_at" s_law_at f fd) : FnOk P w K mg base CX0 1 f fd ["d", "row"] spHolds := by
  refine F.ok sc_law_at (fun vs H Q E h => ?_) (fun cdv A outer s H vs Q E hr h => ?_)
  · obtain ⟨v, c, D, p, q, rfl, _⟩ := h
    rfl
  · obtain ⟨v, c, D, p, q, rfl, im, ok, dp, hc, k⟩ := h
    refine ⟨_, (pss_cons (ps_for PassesOwn.never rfl (pi_range1 rfl T.n_range (pa_cons pe_int pa_nil)) (pg_name (i := 2) sc_law_at.nd rfl (Or.inl rfl)) (pss_one (ps_if (pt_val (pe_callB call_isi (by rfl) T.n_isinstance PyProof.Rows.boot_isinstance (pa_cons (pv 0) (pa_cons (pe_bltn (v := .ty "tuple") rfl T.n_tuple PyProof.Rows.boot_tuple rfl) pa_nil)))) (pss_one (ps_set (i := 0) sc_law_at.nd rfl (Or.inl rfl) (pe_ix ix_seq (pv 0) (pe_op op_add pe_int (pe_ix ix_tup (pv 1) (pe_ix ix_seq (pv 0) pe_int (fun _ _ => rfl)) (fun _ _ => rfl))) (fun _ _ => rfl)))) pss_nil)))
      (pss_one (ps_ret (pv 0)))), ?_⟩
    walk_at "go"
    refine x_rng (n := 9) (by decide) ?_
    refine x_loopN (fun i σ' H' => ∃ (u : V) (E : Dg), σ' = [some u, some (.ref c), σ'.getD 2 none] ∧ H' = H ∧ Im H u E.d ∧ E.ok ∧ E.ev (cf p q) = D.ev (cf p q) ∧ E.dep ≤ 9 - i) ⟨v, D, rfl, rfl, im, ok, rfl, by omega⟩ ?_ ?_
    · rintro i σ' H' hi ⟨u, E, eσ, rfl, im, ok, e, d⟩
      rw [eσ]
      rcases E.im im with ⟨b, rfl, rfl⟩ | ⟨j, lo, hi, t, a, b, rfl, rfl, ht, ia, ib⟩
      · walk_at "go"
        exact ⟨_, _, rfl, rfl, im, ok, e, Nat.zero_le _⟩
      · walk_at "go"
        refine x_ixT hc (cf_at ok.1) ?_
        walk_at "go"
        refine x_ixT' ht pick_at ?_
        walk_at "go"
        obtain ⟨E, o2, i2, e2, d2⟩ := Dg.pick (p := p) (q := q) ok ia ib
        exact ⟨_, E, rfl, rfl, i2, o2, e2.trans e, by omega⟩
    · rintro σ' H' ⟨u, E, eσ, rfl, im, ok, e, d⟩
      rw [eσ]
      walk_at "go"
      rcases E.im im with ⟨b, rfl, rfl⟩ | ⟨j, lo, hi, t, a, b, rfl, rfl, ht, ia, ib⟩
      · rw [← e] at k
        exact k
      · exact absurd d (by simp [Dg.dep])
/-- a diagram of these bits, whatever it is -/
def spDia : Nat → Sp
  | 0 => fun _ _ _ _ => False
  | n + 1 => fun vs H Q _ => ∃ (l : Addr) (bs : List Bool) (i : Nat), vs = [.ref l, .int (i : Int)] ∧ H l = some (.lst (bs.map V.bl)) ∧ bs.length = 2 ^ n ∧ i + n ≤ 2 ∧ ∀ (v : V) (D : Dg) (H' : Hp), Fr [] H H' → Im H' v D.d → D.ok → D.dep ≤ n → Q v H'
theorem ok_diagram (T : Txt K mg) (F : Fun K "_law_diagram" "_law_diagram" s_law_diagram f fd) (hm : mg "_law_diagram" = some (.ref f)) (bd : Binds K fd ["bits", "i"] []) : ∀ n, FnOk P w K mg base CX0 n f fd ["bits", "i"] (spDia n)
  | 0 => fnNever fun _ _ _ _ h => h
  | n + 1 => by
    have g_law_diagram := Got.of F hm bd (ok_diagram T F hm bd n)
    refine F.ok sc_law_diagram (fun vs H Q E h => ?_) (fun cdv A outer s H vs Q E hr h => ?_)
    · obtain ⟨l, bs, i, rfl, _⟩ := h
      rfl
    · obtain ⟨l, bs, i, rfl, hl, bl, hi, k⟩ := h
      refine ⟨_, (pss_cons (ps_if (pt_cmpR op_eq (pe_callB y_lenL (by rfl) T.n_len PySem.boot_len (pa_cons (pv 0) pa_nil)) pe_int (nomark _)) (pss_one (ps_ret (pe_ix ix_list (pv 0) pe_int (fun _ _ => rfl)))) pss_nil)
      (pss_cons (ps_set (i := 2) sc_law_diagram.nd rfl (Or.inl rfl) (pe_op op_fdivN (pe_callB y_lenL (by rfl) T.n_len PySem.boot_len (pa_cons (pv 0) pa_nil)) pe_int))
      (pss_cons (ps_set (i := 3) sc_law_diagram.nd rfl (Or.inl rfl) (pe_got g_law_diagram (hr.mono (by first | decide | omega)) rfl (pa_cons (pe_slice sl_list (pv 0) po_none (po_some (pv 2))) (pa_cons (pe_op op_add (pv 1) pe_int) pa_nil))))
      (pss_cons (ps_set (i := 4) sc_law_diagram.nd rfl (Or.inl rfl) (pe_got g_law_diagram (hr.mono (by first | decide | omega)) rfl (pa_cons (pe_slice sl_list (pv 0) (po_some (pv 2)) po_none) (pa_cons (pe_op op_add (pv 1) pe_int) pa_nil))))
      (pss_cons (ps_if (PW.pt (pw_and (pt_cmpR (op_eqD hr.units) (pv 3) (pv 4) (nomark _)) (pw_and1 (pt_cmpR op_eq (pe_callB call_isi (by rfl) T.n_isinstance PyProof.Rows.boot_isinstance (pa_cons (pv 3) (pa_cons (pe_bltn (v := .ty "tuple") rfl T.n_tuple PyProof.Rows.boot_tuple rfl) pa_nil))) (pe_callB call_isi (by rfl) T.n_isinstance PyProof.Rows.boot_isinstance (pa_cons (pv 4) (pa_cons (pe_bltn (v := .ty "tuple") rfl T.n_tuple PyProof.Rows.boot_tuple rfl) pa_nil))) (nomark _))))) (pss_one (ps_ret (pv 3))) pss_nil)
      (pss_one (ps_ret (pe_tup (pa_cons (pv 1) (pa_cons (pv 3) (pa_cons (pv 4) pa_nil))))))))))), ?_⟩
      walk_at "go"
      cases n with
      | zero =>
        obtain ⟨b, rfl⟩ : ∃ b, bs = [b] := by
          match bs, bl with
          | [b], _ => exact ⟨b, rfl⟩
        refine x_decT (by rfl) ?_
        walk_at "go"
        exact k (.bl b) (.leaf b) H (.refl _) (.bl b) trivial (Nat.le_refl _)
      | succ n =>
        have p2 : 2 ^ (n + 1) = 2 * 2 ^ n := by rw [Nat.pow_succ, Nat.mul_comm]
        have p1 : 1 ≤ 2 ^ n := Nat.one_le_two_pow
        have ln : (bs.map V.bl).length = 2 * 2 ^ n := by rw [List.length_map, bl, p2]
        have hf : (((bs.map V.bl).length : Nat) : Int).fdiv 2 = ((2 ^ n : Nat) : Int) := by
          rw [ln, Int.fdiv_eq_ediv_of_nonneg _ (by decide)]
          omega
        refine x_decF (by omega) ?_
        walk_at "go"
        rw [hf]
        walk_at "go"
        refine x_slL (sqL hl) (fun p H1 np fr1 hp => ?_)
        rw [cut_lo (by omega), ← List.map_take] at hp
        walk_at "go"
        refine ⟨p, bs.take (2 ^ n), i + 1, rfl, hp, by rw [List.length_take, bl]; omega, by omega, fun v1 D1 H2 fr2 im1 o1 d1 => ?_⟩
        walk_at "go"
        refine x_slL (sqL ((fr1.trans fr2).lst hl)) (fun p2 H3 np2 fr3 hp2 => ?_)
        rw [cut_hi (by omega), ← List.map_drop] at hp2
        walk_at "go"
        refine ⟨p2, bs.drop (2 ^ n), i + 1, rfl, hp2, by rw [List.length_drop, bl]; omega, by omega, fun v2 D2 H4 fr4 im2 o2 d2 => ?_⟩
        have fr : Fr [] H H4 := ((fr1.trans fr2).trans fr3).trans fr4
        have im1' : Im H4 v1 D1.d := (im1.fr fr3).fr fr4
        have last : ∀ {Q' : VK}, (∀ (v : V) (D : Dg) (H' : Hp), Fr [] H H' → Im H' v D.d → D.ok → D.dep ≤ n + 1 → Q' v H') → NewT [.int (i : Int), v1, v2] H4 Q' := fun {Q'} k => x_newT (by rfl) fun p H5 np fr5 hp =>
          k (.ref p) (.node i D1 D2) H5 (fr.trans fr5) (.tup hp (.cons (.int _) (.cons (im1'.fr fr5) (.cons (im2.fr fr5) .nil)))) ⟨by omega, o1, o2⟩ (by simp only [Dg.dep]; omega)
        walk_at "go"
        refine x_eqD im1'.dp im2.dp (D1.shaped (by omega)) (D2.shaped (by omega)) ?_
        walk_at "go"
        refine ite2 (fun _ => ?_) (fun _ => ?_)
        · rcases D1.im im1' with ⟨b1, rfl, rfl⟩ | ⟨j1, lo1, hi1, t1, x1, y1, rfl, rfl, ht1, _, _⟩ <;>
          rcases D2.im im2 with ⟨b2, rfl, rfl⟩ | ⟨j2, lo2, hi2, t2, x2, y2, rfl, rfl, ht2, _, _⟩ <;>
          ( walk_at "go"
            refine ite2 (fun _ => ?_) (fun _ => ?_)
            · walk_at "go"
              exact k _ _ _ fr im1' o1 (by omega)
            · walk_at "go"
              exact last k )
        · walk_at "go"
          exact last k
/-! ### two equal data -/
def Rp : Nat → Hp → V → PyData → Prop
  | 0, _, _, _ => False
  | n + 1, H, v, d => (v = .non ∧ d = .none) ∨ (∃ b, v = .bl b ∧ d = .bool b) ∨ (∃ i, v = .int i ∧ d = .int i) ∨ (∃ z, v = .str z ∧ d = .str z) ∨
      ∃ (a : Addr) (xs : List V) (ds : List PyData), v = .ref a ∧ xs.length = ds.length ∧ ds.length ≤ 100000 ∧ ((H a = some (.tup xs) ∧ d = .tuple ds) ∨ (H a = some (.lst xs) ∧ d = .list ds)) ∧ ∀ (i : Nat) (x : V) (e : PyData), xs[i]? = some x → ds[i]? = some e → Rp n H x e
theorem Rp.fr {H H' : Hp} (f : Fr [] H H') : ∀ {n : Nat} {v : V} {d : PyData}, Rp n H v d → Rp n H' v d
  | 0, _, _, h => h.elim
  | n + 1, v, d, h => by
    rcases h with h | h | h | h | ⟨a, xs, ds, e, l, l2, o, c⟩
    · exact .inl h
    · exact .inr (.inl h)
    · exact .inr (.inr (.inl h))
    · exact .inr (.inr (.inr (.inl h)))
    · refine .inr (.inr (.inr (.inr ⟨a, xs, ds, e, l, l2, ?_, fun i x e h1 h2 => (c i x e h1 h2).fr f⟩)))
      rcases o with ⟨o, z⟩ | ⟨o, z⟩
      · exact .inl ⟨f.tup o, z⟩
      · exact .inr ⟨f.lst o, z⟩
def spLike (n : Nat) : Sp := fun vs H Q _ => ∃ (x y : V) (d : PyData), vs = [x, y] ∧ Rp n H x d ∧ Rp n H y d ∧ ∀ H', Fr [] H H' → Q (.bl true) H'
theorem all_true (n : Nat) : ((List.replicate n true).all id) = true := by simp
theorem ok_like (T : Txt K mg) (F : Fun K "_law_like" "_law_like" s_law_like f fd) (hm : mg "_law_like" = some (.ref f)) (bd : Binds K fd ["a", "b"] []) : ∀ n, FnOk P w K mg base CX0 n f fd ["a", "b"] (spLike n)
  | 0 => fnNever fun _ _ _ _ ⟨_, _, _, _, h, _⟩ => h
  | n + 1 => by
    have g_law_like := Got.of F hm bd (ok_like T F hm bd n)
    refine F.ok sc_law_like (fun vs H Q E h => ?_) (fun cdv A outer s H vs Q E hr h => ?_)
    · obtain ⟨x, y, d, rfl, _⟩ := h
      rfl
    · obtain ⟨x, y, d, rfl, h1, h2, k⟩ := h
      refine ⟨_, (pss_cons (ps_if (PW.pt (pw_or (PW.pt (pw_and (pt_val (pe_callB call_isi (by rfl) T.n_isinstance PyProof.Rows.boot_isinstance (pa_cons (pv 0) (pa_cons (pe_bltn (v := .ty "tuple") rfl T.n_tuple PyProof.Rows.boot_tuple rfl) pa_nil)))) (pw_and1 (pt_val (pe_callB call_isi (by rfl) T.n_isinstance PyProof.Rows.boot_isinstance (pa_cons (pv 1) (pa_cons (pe_bltn (v := .ty "tuple") rfl T.n_tuple PyProof.Rows.boot_tuple rfl) pa_nil))))))) (pw_or1 (PW.pt (pw_and (pt_val (pe_callB call_isi (by rfl) T.n_isinstance PyProof.Rows.boot_isinstance (pa_cons (pv 0) (pa_cons (pe_bltn (v := .ty "list") rfl T.n_list PyProof.Rows.boot_list rfl) pa_nil)))) (pw_and1 (pt_val (pe_callB call_isi (by rfl) T.n_isinstance PyProof.Rows.boot_isinstance (pa_cons (pv 1) (pa_cons (pe_bltn (v := .ty "list") rfl T.n_list PyProof.Rows.boot_list rfl) pa_nil)))))))))) (pss_one (ps_ret (pe_and (pe_cmpR op_eq (pe_callB y_lenL (by rfl) T.n_len PySem.boot_len (pa_cons (pv 0) pa_nil)) (pe_callB y_lenL (by rfl) T.n_len PySem.boot_len (pa_cons (pv 1) pa_nil)) (nomark _)) (pe_one (pe_callB (cr_all rfl) (by rfl) T.n_all PyProof.Rows.boot_all (pa_cons (pe_lc (own := [("k", 2)]) (g := gName 2) (tt := tYes) (te := (tGot (spLike n) E0 (tCons (tOp (rIx K) (tVar 0) (tVar 2)) (tCons (tOp (rIx K) (tVar 1) (tVar 2)) tNil)))) rfl sc_law_like.nd (pi_range1 rfl T.n_range (pa_cons (pe_callB y_lenL (by rfl) T.n_len PySem.boot_len (pa_cons (pv 0) pa_nil)) pa_nil)) (blkOk_by (own := [("k", 2)]) (N := ["a", "b", "k", "key"]) (sc := defScope s_law_like) (by decide +kernel)) (fun _ _ _ _ _ => (pg_name (i := 2) sc_law_like.nd rfl (Or.inl rfl))) (fun _ _ _ _ _ => pts_nil) (fun _ _ _ _ _ => (pe_got g_law_like (hr.mono (by first | decide | omega)) rfl (pa_cons (pe_ix ix_seq (pv 0) (pv 2) (fun _ _ => rfl)) (pa_cons (pe_ix ix_seq (pv 1) (pv 2) (fun _ _ => rfl)) pa_nil))))) pa_nil)))))) pss_nil)
      (pss_cons (ps_if (PW.pt (pw_and (pt_val (pe_callB call_isi (by rfl) T.n_isinstance PyProof.Rows.boot_isinstance (pa_cons (pv 0) (pa_cons (pe_bltn (v := .ty "dict") rfl T.n_dict PyProof.Rows.boot_dict rfl) pa_nil)))) (pw_and1 (pt_val (pe_callB call_isi (by rfl) T.n_isinstance PyProof.Rows.boot_isinstance (pa_cons (pv 1) (pa_cons (pe_bltn (v := .ty "dict") rfl T.n_dict PyProof.Rows.boot_dict rfl) pa_nil))))))) (pss_one (ps_ret (pe_and (pe_cmpR op_eq (pe_callB y_lenL (by rfl) T.n_len PySem.boot_len (pa_cons (pv 0) pa_nil)) (pe_callB y_lenL (by rfl) T.n_len PySem.boot_len (pa_cons (pv 1) pa_nil)) (nomark _)) (pe_one (pe_callB (cr_all rfl) (by rfl) T.n_all PyProof.Rows.boot_all (pa_cons (pe_lc (own := [("key", 3)]) (g := gName 3) (tt := tYes) (te := (tAndV (tOp (rIn K false) (tVar 3) (tVar 1)) (tGot (spLike n) E0 (tCons (tOp (rIx K) (tVar 0) (tVar 3)) (tCons (tOp (rIx K) (tVar 1) (tVar 3)) tNil))))) rfl sc_law_like.nd (pi_list (pv 0)) (blkOk_by (own := [("key", 3)]) (N := ["a", "b", "k", "key"]) (sc := defScope s_law_like) (by decide +kernel)) (fun _ _ _ _ _ => (pg_name (i := 3) sc_law_like.nd rfl (Or.inl rfl))) (fun _ _ _ _ _ => pts_nil) (fun _ _ _ _ _ => (pe_and (pe_cmpR op_in_seq (pv 3) (pv 1) (by rfl)) (pe_one (pe_got g_law_like (hr.mono (by first | decide | omega)) rfl (pa_cons (pe_ix ix_seq (pv 0) (pv 3) (fun _ _ => rfl)) (pa_cons (pe_ix ix_seq (pv 1) (pv 3) (fun _ _ => rfl)) pa_nil))))))) pa_nil)))))) pss_nil)
      (pss_cons (ps_if (PW.pt (pw_or (pt_val (pe_callB call_isi (by rfl) T.n_isinstance PyProof.Rows.boot_isinstance (pa_cons (pv 0) (pa_cons (pe_bltn (v := .ty "bool") rfl T.n_bool PyProof.Rows.boot_bool rfl) pa_nil)))) (pw_or1 (pt_val (pe_callB call_isi (by rfl) T.n_isinstance PyProof.Rows.boot_isinstance (pa_cons (pv 1) (pa_cons (pe_bltn (v := .ty "bool") rfl T.n_bool PyProof.Rows.boot_bool rfl) pa_nil))))))) (pss_one (ps_ret (pe_and (pe_callB call_isi (by rfl) T.n_isinstance PyProof.Rows.boot_isinstance (pa_cons (pv 0) (pa_cons (pe_bltn (v := .ty "bool") rfl T.n_bool PyProof.Rows.boot_bool rfl) pa_nil))) (pe_and (pe_callB call_isi (by rfl) T.n_isinstance PyProof.Rows.boot_isinstance (pa_cons (pv 1) (pa_cons (pe_bltn (v := .ty "bool") rfl T.n_bool PyProof.Rows.boot_bool rfl) pa_nil))) (pe_one (pe_cmpR op_eq (pv 0) (pv 1) (nomark _))))))) pss_nil)
      (pss_cons (ps_if (PW.pt (pw_or (PW.pt (pw_and (pt_val (pe_callB call_isi (by rfl) T.n_isinstance PyProof.Rows.boot_isinstance (pa_cons (pv 0) (pa_cons (pe_bltn (v := .ty "int") rfl T.n_int PyProof.Rows.boot_int rfl) pa_nil)))) (pw_and1 (pt_val (pe_callB call_isi (by rfl) T.n_isinstance PyProof.Rows.boot_isinstance (pa_cons (pv 1) (pa_cons (pe_bltn (v := .ty "int") rfl T.n_int PyProof.Rows.boot_int rfl) pa_nil))))))) (pw_or1 (PW.pt (pw_and (pt_val (pe_callB call_isi (by rfl) T.n_isinstance PyProof.Rows.boot_isinstance (pa_cons (pv 0) (pa_cons (pe_bltn (v := .ty "str") rfl T.n_str PyProof.Rows.boot_str rfl) pa_nil)))) (pw_and1 (pt_val (pe_callB call_isi (by rfl) T.n_isinstance PyProof.Rows.boot_isinstance (pa_cons (pv 1) (pa_cons (pe_bltn (v := .ty "str") rfl T.n_str PyProof.Rows.boot_str rfl) pa_nil)))))))))) (pss_one (ps_ret (pe_cmpR op_eq (pv 0) (pv 1) (nomark _)))) pss_nil)
      (pss_one (ps_ret (pe_and (pe_cmpR y_isN (pv 0) pe_non (nomark _)) (pe_one (pe_cmpR y_isN (pv 1) pe_non (nomark _)))))))))), ?_⟩
      rcases h1 with ⟨rfl, rfl⟩ | ⟨b, rfl, rfl⟩ | ⟨i, rfl, rfl⟩ | ⟨z, rfl, rfl⟩ | ⟨a1, xs1, ds, rfl, l1, l0, o1, c1⟩ <;>
      rcases h2 with ⟨rfl, e2⟩ | ⟨b2, rfl, e2⟩ | ⟨i2, rfl, e2⟩ | ⟨z2, rfl, e2⟩ | ⟨a2, xs2, ds2, rfl, l2, _, o2, c2⟩
      all_goals first | (exfalso; cases e2; done) | (exfalso; rcases o1 with ⟨_, o1⟩ | ⟨_, o1⟩ <;> rw [o1] at e2 <;> cases e2; done) | (exfalso; rcases o2 with ⟨_, o2⟩ | ⟨_, o2⟩ <;> cases o2; done) | skip
      · walk_at "go"
        refine x_isN ?_
        walk_at "go"
        refine x_decT rfl ?_
        walk_at "go"
        refine x_isN ?_
        walk_at "go"
        exact k H (.refl _)
      · cases e2
        walk_at "go"
        rw [decide_eq_true rfl]
        exact k H (.refl _)
      · cases e2
        walk_at "go"
        rw [decide_eq_true rfl]
        exact k H (.refl _)
      · cases e2
        walk_at "go"
        rw [decide_eq_true rfl]
        exact k H (.refl _)
      · rcases o1 with ⟨o1, rfl⟩ | ⟨o1, rfl⟩ <;> rcases o2 with ⟨o2, e2⟩ | ⟨o2, e2⟩ <;> cases e2
        all_goals
          have el : xs1.length = xs2.length := l1.trans l2.symm
          walk_at "go"
          rw [el]
          refine x_decT rfl ?_
          walk_at "go"
          refine x_rng (n := xs1.length) (by omega) ?_
          refine x_lcN (fun D i ys H' => Fr [] H H' ∧ ys = (List.replicate i true).map V.bl) (fun _ => rfl) (fun D H2 hD fr _ => ⟨fr, rfl⟩) ?_ ?_
          · rintro D i ys H' hD hi hl le ⟨fr, ey⟩
            have e1 := List.getElem?_eq_getElem hi
            have e2 : xs2[i]? = some (xs2[i]'(by omega)) := List.getElem?_eq_getElem (by omega)
            have e3 : ds[i]? = some (ds[i]'(by omega)) := List.getElem?_eq_getElem (by omega)
            walk_at "go"
            first | refine x_ixT' (fr.tup o1) (atI_nat e1) ?_ | refine x_ixL' (sqL (fr.lst o1)) (atI_nat e1) ?_
            walk_at "go"
            first | refine x_ixT' (fr.tup o2) (atI_nat e2) ?_ | refine x_ixL' (sqL (fr.lst o2)) (atI_nat e2) ?_
            walk_at "go"
            refine ⟨_, _, _, rfl, (c1 _ _ _ e1 e3).fr fr, (c2 _ _ _ e2 e3).fr fr, fun H3 fr3 => ?_⟩
            refine x_put (fr3.lst hl) le (by omega) (fun H4 fr4 h4 => ⟨(fr.trans fr3).drop fr4 hD, ?_⟩)
            rw [ey, List.replicate_succ', List.map_append]
            rfl
          · rintro D ys H' hD ⟨fr, ey⟩ hl le
            rw [ey] at hl
            refine x_all (sqL hl) ?_
            rw [all_true]
            exact k H' fr
end
end My
namespace My
open PySem PySem.Spec L2
local macro_rules | `(tactic| walk_at "fact") => `(tactic| first | assumption | exact sqL (by assumption) | exact sqL upd_same | exact Fr.sql (by assumption) (by assumption))
local macro_rules | `(tactic| walk_at "hfact") => `(tactic| first | assumption | exact upd_same)
local macro_rules | `(tactic| walk_at "kit") => `(tactic| first
  | exact kb_bool_tuple | exact kb_bool_list | exact kb_bool_dict | exact kb_bool_bool | exact kb_bool_int | exact kb_bool_str | exact kb_int_tuple | exact kb_int_list | exact kb_int_dict | exact kb_int_bool | exact kb_int_int | exact kb_int_str
  | exact kb_str_tuple | exact kb_str_list | exact kb_str_dict | exact kb_str_bool | exact kb_str_int | exact kb_str_str | exact kb_none_tuple | exact kb_none_list | exact kb_none_dict | exact kb_none_bool | exact kb_none_int | exact kb_none_str
  | exact kb_tuple_tuple | exact kb_tuple_list | exact kb_tuple_dict | exact kb_tuple_bool | exact kb_tuple_int | exact kb_tuple_str | exact kb_list_tuple | exact kb_list_list | exact kb_list_dict | exact kb_list_bool | exact kb_list_int | exact kb_list_str
  | exact kb_dict_tuple | exact kb_dict_list | exact kb_dict_dict)
local macro_rules | `(tactic| walk_at "go1") => `(tactic| first
  | with_reducible refine x_var rfl ?_ | with_reducible refine x_c ?_ | with_reducible refine x_seq ?_ | with_reducible refine x_asg ?_ | with_reducible refine x_gname ?_ | with_reducible refine x_op ?_
  | with_reducible refine x_rI0 ?_ | with_reducible refine x_eqI ?_ | with_reducible refine x_eqS ?_ | with_reducible refine x_eqB ?_ | with_reducible refine x_neI ?_ | with_reducible refine x_neS ?_ | with_reducible refine x_test ?_ | with_reducible refine x_tB ?_ | with_reducible refine x_bl ?_
  | with_reducible refine x_if ?_ | with_reducible refine x_and ?_ | with_reducible refine x_or ?_ | with_reducible refine x_not ?_ | with_reducible refine x_andV ?_ | with_reducible refine x_orV ?_ | with_reducible refine x_notV ?_ | with_reducible refine x_ifE ?_ | with_reducible refine x_chain ?_
  | with_reducible refine x_cons ?_ | with_reducible refine x_nil ?_ | with_reducible refine x_cb ?_ | with_reducible refine x_got ?_ | with_reducible refine x_un ?_ | with_reducible refine x_rU ?_ | with_reducible refine x_int1 ?_
  | with_reducible refine x_ret ?_ | with_reducible refine x_retN ?_ | with_reducible refine x_next ?_ | with_reducible refine x_drop ?_ | with_reducible refine x_aug rfl ?_ | with_reducible refine x_ipI ?_ | with_reducible refine x_gsub ?_
  | with_reducible refine x_break ?_ | with_reducible refine x_cont ?_ | with_reducible refine x_slice ?_ | with_reducible refine x_noPart ?_ | with_reducible refine x_part ?_ | with_reducible refine x_int ?_ | with_reducible refine x_bm ?_ | with_reducible refine x_bm0 ?_
  | with_reducible refine x_tupQ ?_ | with_reducible refine x_lstQ ?_ | with_reducible refine x_inC ?_ | with_reducible refine x_notInC ?_ | with_reducible refine x_T ?_ | with_reducible refine x_F ?_ | with_reducible refine x_nT ?_ | with_reducible refine x_nF ?_
  | with_reducible refine x_for ?_ | with_reducible refine x_iR1 ?_ | with_reducible refine x_iL ?_ | with_reducible refine x_iT ?_ | with_reducible refine x_iE ?_ | with_reducible refine x_gcons ?_ | with_reducible refine x_gnil ?_ | with_reducible refine x_gtup (by walk_at "hfact") rfl ?_
  | with_reducible refine x_raiseBad ?_ | with_reducible refine x_raiseOwn ?_ | with_reducible refine x_isX (by assumption) (by assumption) ?_
  | with_reducible refine x_turn ?_ | with_reducible refine x_mulR (by decide) ?_ | with_reducible refine x_mulL (by decide) ?_ | with_reducible refine x_mod (by decide) ?_ | with_reducible refine x_div (by decide) ?_
  | with_reducible refine x_ixL (by walk_at "fact") rfl ?_ | with_reducible refine x_lenL (by walk_at "fact") ?_ | with_reducible refine x_lenS (by assumption) ?_ | with_reducible refine x_slS (by assumption) ?_ | with_reducible refine x_ixT (by walk_at "hfact") rfl ?_ | with_reducible refine x_ixT' (by walk_at "hfact") rfl ?_ | with_reducible refine x_tyL (by walk_at "hfact") ?_ | with_reducible refine x_setL (by walk_at "hfact") rfl ?_
  | with_reducible refine x_isi tx_bl (by walk_at "kit") ?_ | with_reducible refine x_isi tx_int (by walk_at "kit") ?_ | with_reducible refine x_isi tx_str (by walk_at "kit") ?_ | with_reducible refine x_isi tx_non (by walk_at "kit") ?_ | with_reducible refine x_isi (tx_tup (by walk_at "hfact")) (by walk_at "kit") ?_ | with_reducible refine x_isi (tx_lst (by walk_at "hfact")) (by walk_at "kit") ?_
  | with_reducible refine x_lc ?_ | with_reducible refine x_yes ?_ | with_reducible refine x_gotS ?_ | with_reducible refine x_lenT (by walk_at "hfact") ?_ | with_reducible refine x_tru ?_ | with_reducible refine x_trB ?_)
local macro_rules | `(tactic| walk_at "go") => `(tactic| repeat walk_at "go1")

theorem strs_at {zs : List Str} {d : Int} (h0 : 0 ≤ d) (h : d < (zs.length : Int)) : ∃ z, z ∈ zs ∧ atI (zs.map V.str) d = some (.str z) := by
  have hj : d.toNat < zs.length := by omega
  exact ⟨zs[d.toNat], List.getElem_mem hj, at_of (j := d.toNat) (by omega) (by rw [List.getElem?_map, List.getElem?_eq_getElem hj]; rfl)⟩
abbrev PCS : List Str := ["x", "a1B", "Zed", "7", "0012", "+", "-", "*", "/", "(", ")", "{", "}", ";", ",", "=", "<", ">", "!", ":", ".", "?", "&", "|", " ", "  "]
theorem pcs_len : ∀ z ∈ PCS, z.length ≤ 4 := by decide +kernel
abbrev SGS : List Str := ["#", "_", "$", "[", "'", "@", "~", "^"]
theorem sgs_len : ∀ z ∈ SGS, z.length ≤ 4 := by decide +kernel
/-! ### folded lines -/
structure Ln where
  z : Str
  m : Int
  D : Dg
def Ln.d (l : Ln) : PyData := .tuple [.str l.z, .str "main", .int l.m, l.D.d]
def Ln.ok (l : Ln) : Prop := l.z.length ≤ 200 ∧ l.D.ok ∧ l.D.dep ≤ 2
abbrev It2 : Type := PyData × Dg
def itD (t : It2) : PyData := .tuple [t.1, t.2.d]
inductive Res
  | bad (r p : Nat)
  | many
  | ok (its : List It2)
def foldR : Nat → List Ln → List It2 → Res
  | _, [], acc => .ok acc
  | r, l :: ls, acc => match wrong l.z with
    | some p => .bad r p
    | none => if 24 < (acc ++ (lineToks l.z r).map fun t => (t, l.D)).length then .many else foldR (r + 1) ls (acc ++ (lineToks l.z r).map fun t => (t, l.D))
theorem foldR_bad {r p : Nat} {l : Ln} {ls : List Ln} {acc : List It2} (h : wrong l.z = some p) : foldR r (l :: ls) acc = .bad r p := by
  show (match wrong l.z with | some p => _ | none => _) = _
  rw [h]
theorem foldR_many {r : Nat} {l : Ln} {ls : List Ln} {acc : List It2} (h : wrong l.z = none) (h2 : 24 < (acc ++ (lineToks l.z r).map fun t => (t, l.D)).length) : foldR r (l :: ls) acc = .many := by
  show (match wrong l.z with | some p => _ | none => _) = _
  rw [h]
  exact if_pos h2
theorem foldR_next {r : Nat} {l : Ln} {ls : List Ln} {acc : List It2} (h : wrong l.z = none) (h2 : ¬ 24 < (acc ++ (lineToks l.z r).map fun t => (t, l.D)).length) : foldR r (l :: ls) acc = foldR (r + 1) ls (acc ++ (lineToks l.z r).map fun t => (t, l.D)) := by
  show (match wrong l.z with | some p => _ | none => _) = _
  rw [h]
  exact if_neg h2
theorem foldR_mem : ∀ {ls : List Ln} {r : Nat} {acc its : List It2}, foldR r ls acc = .ok its → ∀ it ∈ its, it ∈ acc ∨ ∃ l ∈ ls, it.2 = l.D ∧ ∃ r, it.1 ∈ lineToks l.z r
  | [], r, acc, its, h => by
    cases h
    exact fun it hi => .inl hi
  | l :: ls, r, acc, its, h => by
    cases hw : wrong l.z with
    | some p =>
      rw [foldR_bad hw] at h
      cases h
    | none =>
      by_cases h2 : 24 < (acc ++ (lineToks l.z r).map fun t => (t, l.D)).length
      · rw [foldR_many hw h2] at h
        cases h
      · rw [foldR_next hw h2] at h
        intro it hi
        rcases foldR_mem h it hi with h | ⟨l', hl, h⟩
        · rcases List.mem_append.mp h with h | h
          · exact .inl h
          · obtain ⟨t, ht, rfl⟩ := List.mem_map.mp h
            exact .inr ⟨l, List.mem_cons_self, rfl, _, ht⟩
        · exact .inr ⟨l', List.mem_cons_of_mem _ hl, h⟩
theorem foldR_len : ∀ {ls : List Ln} {r : Nat} {acc its : List It2}, acc.length ≤ 24 → foldR r ls acc = .ok its → its.length ≤ 24
  | [], r, acc, its, ha, h => by
    cases h
    exact ha
  | l :: ls, r, acc, its, ha, h => by
    cases hw : wrong l.z with
    | some p =>
      rw [foldR_bad hw] at h
      cases h
    | none =>
      by_cases h2 : 24 < (acc ++ (lineToks l.z r).map fun t => (t, l.D)).length
      · rw [foldR_many hw h2] at h
        cases h
      · rw [foldR_next hw h2] at h
        exact foldR_len (by omega) h
theorem Ln.im {H : Hp} {x : V} {l : Ln} (h : Im H x l.d) : ∃ p v, x = .ref p ∧ H p = some (.tup [.str l.z, .str "main", .int l.m, v]) ∧ Im H v l.D.d := by
  cases h with
  | @tup p xs _ hp h2 =>
    cases h2 with
    | cons h3 h4 =>
      cases h3
      cases h4 with
      | cons h5 h6 =>
        cases h5
        cases h6 with
        | cons h7 h8 =>
          cases h7
          cases h8 with
          | cons h9 h10 =>
            cases h10
            exact ⟨p, _, rfl, hp, h9⟩
theorem It2.im {H : Hp} {x : V} {t : It2} (h : Im H x (itD t)) : ∃ p u v, x = .ref p ∧ H p = some (.tup [u, v]) ∧ Im H u t.1 ∧ Im H v t.2.d := by
  cases h with
  | @tup p xs _ hp h2 =>
    cases h2 with
    | cons h3 h4 =>
      cases h4 with
      | cons h5 h6 =>
        cases h6
        exact ⟨p, _, _, rfl, hp, h3, h5⟩
theorem get_snoc {α : Type} {xs : List α} {i : Nat} {x : α} (h : xs[i]? = some x) : xs.take (i + 1) = xs.take i ++ [x] := by
  rw [List.take_succ, h]
  rfl
theorem drop_cons {α : Type} {xs : List α} {i : Nat} {x : α} (h : xs[i]? = some x) : xs.drop i = x :: xs.drop (i + 1) := by
  obtain ⟨hi, e⟩ := List.getElem?_eq_some_iff.mp h
  rw [List.drop_eq_getElem_cons hi, e]
/-- the indexes of those that hold -/
def hits (its : List It2) (c : Nat → Bool) (n : Nat) : List Nat := (List.range n).filter fun i => ((its[i]?).map fun t => t.2.ev c).getD false
theorem hits_yes {its : List It2} {c : Nat → Bool} {n : Nat} {t : It2} (h : its[n]? = some t) (e : t.2.ev c = true) : hits its c (n + 1) = hits its c n ++ [n] := by
  unfold hits
  rw [List.range_succ, List.filter_append]
  have : [n].filter (fun i => ((its[i]?).map fun t => t.2.ev c).getD false) = [n] := by
    rw [List.filter_cons_of_pos, List.filter_nil]
    rw [h]
    exact e
  rw [this]
theorem hits_no {its : List It2} {c : Nat → Bool} {n : Nat} {t : It2} (h : its[n]? = some t) (e : t.2.ev c = false) : hits its c (n + 1) = hits its c n := by
  unfold hits
  rw [List.range_succ, List.filter_append]
  have : [n].filter (fun i => ((its[i]?).map fun t => t.2.ev c).getD false) = [] := by
    rw [List.filter_cons_of_neg, List.filter_nil]
    rw [h]
    show ¬ t.2.ev c = true
    rw [e]
    decide
  rw [this, List.append_nil]
theorem hits_len {its : List It2} {c : Nat → Bool} {n : Nat} : (hits its c n).length ≤ n := by
  have := List.length_filter_le (fun i => ((its[i]?).map fun t => t.2.ev c).getD false) (List.range n)
  rw [List.length_range] at this
  exact this
def natV (l : List Nat) : List V := l.map fun i : Nat => V.int (i : Int)
section
variable {P : Program} {w : World} {K : PySem.W.Frag} {mg : Str → Option Value} {base : Heap} {f : Addr} {fd : FuncData} {CX : CXT} {C fI cc cda : Addr}
def spText : Sp := fun vs H Q _ => ∃ (t c : Addr) (b : Bool), vs = [.ref t, .bl b] ∧ Tape H t c ∧ ∀ (z : Str) (H' : Hp), z.length ≤ 200 → Fr [t] H H' → Tape H' t c → Q (.str z) H'
theorem ok_text (T : Txt K mg) (g_law_take : Got P w K mg base CX0 "_law_take" 2 ["tape", "many"] spTake) (F : Fun K "_law_text" "_law_text" s_law_text f fd) : FnOk P w K mg base CX0 3 f fd ["tape", "bad"] spText := by
  refine F.ok sc_law_text (fun vs H Q E h => ?_) (fun cdv A outer s H vs Q E hr h => ?_)
  · obtain ⟨t, c, b, rfl, _⟩ := h
    rfl
  · obtain ⟨t, c, b, rfl, tp, k⟩ := h
    refine ⟨_, (pss_cons (ps_set (i := 2) sc_law_text.nd rfl (Or.inl rfl) (pe_lst (pa_cons pe_str (pa_cons pe_str (pa_cons pe_str (pa_cons pe_str (pa_cons pe_str (pa_cons pe_str (pa_cons pe_str (pa_cons pe_str (pa_cons pe_str (pa_cons pe_str (pa_cons pe_str (pa_cons pe_str (pa_cons pe_str (pa_cons pe_str (pa_cons pe_str (pa_cons pe_str (pa_cons pe_str (pa_cons pe_str (pa_cons pe_str (pa_cons pe_str (pa_cons pe_str (pa_cons pe_str (pa_cons pe_str (pa_cons pe_str (pa_cons pe_str (pa_cons pe_str pa_nil))))))))))))))))))))))))))))
      (pss_cons (ps_set (i := 3) sc_law_text.nd rfl (Or.inl rfl) pe_str)
      (pss_cons (ps_for PassesOwn.never rfl (pi_range1 rfl T.n_range (pa_cons (pe_got g_law_take (hr.mono (by first | decide | omega)) rfl (pa_cons (pv 0) (pa_cons pe_int pa_nil))) pa_nil)) (pg_name (i := 4) sc_law_text.nd rfl (Or.inl rfl)) (pss_cons (ps_set (i := 3) sc_law_text.nd rfl (Or.inl rfl) (pe_op y_addS (pv 3) (pe_ix ix_list (pv 2) (pe_got g_law_take (hr.mono (by first | decide | omega)) rfl (pa_cons (pv 0) (pa_cons pe_int pa_nil))) (fun _ _ => rfl))))
      (pss_one (ps_if (pt_cmpR op_eq (pe_got g_law_take (hr.mono (by first | decide | omega)) rfl (pa_cons (pv 0) (pa_cons pe_int pa_nil))) pe_int (nomark _)) (pss_one (ps_set (i := 3) sc_law_text.nd rfl (Or.inl rfl) (pe_op y_addS (pv 3) pe_str))) pss_nil))))
      (pss_cons (ps_if (pt_val (pv 1)) (pss_cons (ps_set (i := 5) sc_law_text.nd rfl (Or.inl rfl) (pe_got g_law_take (hr.mono (by first | decide | omega)) rfl (pa_cons (pv 0) (pa_cons (pe_op op_add (pe_callB y_lenS (by rfl) T.n_len PySem.boot_len (pa_cons (pv 3) pa_nil)) pe_int) pa_nil))))
      (pss_cons (ps_set (i := 6) sc_law_text.nd rfl (Or.inl rfl) (pe_ix ix_list (pe_lst (pa_cons pe_str (pa_cons pe_str (pa_cons pe_str (pa_cons pe_str (pa_cons pe_str (pa_cons pe_str (pa_cons pe_str (pa_cons pe_str pa_nil))))))))) (pe_got g_law_take (hr.mono (by first | decide | omega)) rfl (pa_cons (pv 0) (pa_cons pe_int pa_nil))) (fun _ _ => rfl)))
      (pss_one (ps_set (i := 3) sc_law_text.nd rfl (Or.inl rfl) (pe_op y_addS (pe_op y_addS (pe_slice sl_str (pv 3) po_none (po_some (pv 5))) (pe_ifExp (pt_cmpR op_gt (pv 5) pe_int (nomark _)) (pv 6) pe_str)) (pe_slice sl_str (pv 3) (po_some (pv 5)) po_none)))))) pss_nil)
      (pss_one (ps_ret (pv 3))))))), ?_⟩
    walk_at "go"
    refine x_newL (by rfl) (fun l H1 nl fr1 hl => ?_)
    have hl : H1 l = some (.lst (PCS.map V.str)) := hl
    have tp1 := tp.fr fr1
    have lt : l ∉ [t] := by simpa using (tp.t nl).1
    walk_at "go"
    refine ⟨t, c, 12, rfl, tp1, by decide, by decide, fun d H2 d0 d1 fr2 tp2 => ?_⟩
    walk_at "go"
    refine x_rngI d0 (by omega) ?_
    refine x_loopN (n := d.toNat) (fun i σ' H' => ∃ (z : Str) (y : Option V), σ' = [some (.ref t), some (.bl b), some (.ref l), some (.str z), y, none, none] ∧ Fr [t] H H' ∧ Tape H' t c ∧ H' l = some (.lst (PCS.map V.str)) ∧ z.length ≤ 5 * i)
      ⟨"", _, rfl, fr1.nil.trans fr2, tp2, fr2.lst hl lt, by decide⟩ ?_ ?_
    · rintro i σ' H' hi ⟨z, y, rfl, fr, tp, hl, zl⟩
      walk_at "go"
      refine ⟨t, c, 26, rfl, tp, by decide, by decide, fun e H3 e0 e1 fr3 tp3 => ?_⟩
      obtain ⟨u, hu, at_u⟩ := strs_at (zs := PCS) e0 e1
      have ul := pcs_len u hu
      walk_at "go"
      refine x_ixL (sqL (fr3.lst hl lt)) at_u ?_
      walk_at "go"
      refine x_addS (by omega) ?_
      walk_at "go"
      have zl2 : (z ++ u).length = z.length + u.length := len_append _ _
      refine ⟨t, c, 3, rfl, tp3, by decide, by decide, fun e2 H4 _ _ fr4 tp4 => ?_⟩
      walk_at "go"
      refine x_dec (fun _ => ?_) (fun _ => ?_)
      · walk_at "go"
        refine x_addS (by rw [zl2]; show _ + 1 ≤ _; omega) ?_
        walk_at "go"
        exact ⟨_, _, rfl, (fr.trans fr3).trans fr4, tp4, fr4.lst (fr3.lst hl lt) lt, by rw [len_append, zl2]; show _ + 1 ≤ _; omega⟩
      · walk_at "go"
        exact ⟨_, _, rfl, (fr.trans fr3).trans fr4, tp4, fr4.lst (fr3.lst hl lt) lt, by omega⟩
    · rintro σ' H' ⟨z, y, rfl, fr, tp, hl, zl⟩
      have z1 : z.length ≤ 100000 := by omega
      walk_at "go"
      cases b with
      | false =>
        walk_at "go"
        exact k z H' (by omega) fr tp
      | true =>
        walk_at "go"
        refine ⟨t, c, _, rfl, tp, by omega, by omega, fun e H3 e0 e1 fr3 tp3 => ?_⟩
        walk_at "go"
        refine x_newL (by rfl) (fun g H4 ng fr4 hg => ?_)
        have hg : H4 g = some (.lst (SGS.map V.str)) := hg
        have gt : g ∉ [t] := by simpa using (tp3.t ng).1
        walk_at "go"
        refine ⟨t, c, 8, rfl, tp3.fr fr4, by decide, by decide, fun e2 H5 c0 c1 fr5 tp5 => ?_⟩
        obtain ⟨u, hu, at_u⟩ := strs_at (zs := SGS) c0 c1
        have ul := sgs_len u hu
        walk_at "go"
        refine x_ixL (sqL (fr5.lst hg gt)) at_u ?_
        walk_at "go"
        have a1 := cutS_length z none (some e)
        have a2 := cutS_length z (some e) none
        have frT : Fr [t] H H5 := ((fr.trans fr3).trans fr4.nil).trans fr5
        refine x_dec (fun _ => ?_) (fun _ => ?_)
        · walk_at "go"
          refine x_addS (by omega) ?_
          walk_at "go"
          refine x_addS (by rw [len_append]; omega) ?_
          walk_at "go"
          exact k _ _ (by rw [len_append, len_append]; omega) frT tp5
        · walk_at "go"
          refine x_addS (by show _ + 1 ≤ _; omega) ?_
          walk_at "go"
          refine x_addS (by rw [len_append]; show _ + 1 + _ ≤ _; omega) ?_
          walk_at "go"
          exact k _ _ (by rw [len_append, len_append]; show _ + 1 + _ ≤ _; omega) frT tp5
end
end My
namespace My
open PySem PySem.Spec L2
local macro_rules | `(tactic| walk_at "fact") => `(tactic| first | assumption | exact sqL (by assumption) | exact sqL upd_same | exact Fr.sql (by assumption) (by assumption))
local macro_rules | `(tactic| walk_at "hfact") => `(tactic| first | assumption | exact upd_same)
local macro_rules | `(tactic| walk_at "kit") => `(tactic| first
  | exact kb_bool_tuple | exact kb_bool_list | exact kb_bool_dict | exact kb_bool_bool | exact kb_bool_int | exact kb_bool_str | exact kb_int_tuple | exact kb_int_list | exact kb_int_dict | exact kb_int_bool | exact kb_int_int | exact kb_int_str
  | exact kb_str_tuple | exact kb_str_list | exact kb_str_dict | exact kb_str_bool | exact kb_str_int | exact kb_str_str | exact kb_none_tuple | exact kb_none_list | exact kb_none_dict | exact kb_none_bool | exact kb_none_int | exact kb_none_str
  | exact kb_tuple_tuple | exact kb_tuple_list | exact kb_tuple_dict | exact kb_tuple_bool | exact kb_tuple_int | exact kb_tuple_str | exact kb_list_tuple | exact kb_list_list | exact kb_list_dict | exact kb_list_bool | exact kb_list_int | exact kb_list_str
  | exact kb_dict_tuple | exact kb_dict_list | exact kb_dict_dict)
local macro_rules | `(tactic| walk_at "go1") => `(tactic| first
  | with_reducible refine x_var rfl ?_ | with_reducible refine x_c ?_ | with_reducible refine x_seq ?_ | with_reducible refine x_asg ?_ | with_reducible refine x_gname ?_ | with_reducible refine x_op ?_
  | with_reducible refine x_rI0 ?_ | with_reducible refine x_eqI ?_ | with_reducible refine x_eqS ?_ | with_reducible refine x_eqB ?_ | with_reducible refine x_neI ?_ | with_reducible refine x_neS ?_ | with_reducible refine x_test ?_ | with_reducible refine x_tB ?_ | with_reducible refine x_bl ?_
  | with_reducible refine x_if ?_ | with_reducible refine x_and ?_ | with_reducible refine x_or ?_ | with_reducible refine x_not ?_ | with_reducible refine x_andV ?_ | with_reducible refine x_orV ?_ | with_reducible refine x_notV ?_ | with_reducible refine x_ifE ?_ | with_reducible refine x_chain ?_
  | with_reducible refine x_cons ?_ | with_reducible refine x_nil ?_ | with_reducible refine x_cb ?_ | with_reducible refine x_got ?_ | with_reducible refine x_un ?_ | with_reducible refine x_rU ?_ | with_reducible refine x_int1 ?_
  | with_reducible refine x_ret ?_ | with_reducible refine x_retN ?_ | with_reducible refine x_next ?_ | with_reducible refine x_drop ?_ | with_reducible refine x_aug rfl ?_ | with_reducible refine x_ipI ?_ | with_reducible refine x_gsub ?_
  | with_reducible refine x_break ?_ | with_reducible refine x_cont ?_ | with_reducible refine x_slice ?_ | with_reducible refine x_noPart ?_ | with_reducible refine x_part ?_ | with_reducible refine x_int ?_ | with_reducible refine x_bm ?_ | with_reducible refine x_bm0 ?_
  | with_reducible refine x_tupQ ?_ | with_reducible refine x_lstQ ?_ | with_reducible refine x_inC ?_ | with_reducible refine x_notInC ?_ | with_reducible refine x_T ?_ | with_reducible refine x_F ?_ | with_reducible refine x_nT ?_ | with_reducible refine x_nF ?_
  | with_reducible refine x_for ?_ | with_reducible refine x_iR1 ?_ | with_reducible refine x_iL ?_ | with_reducible refine x_iT ?_ | with_reducible refine x_iE ?_ | with_reducible refine x_gcons ?_ | with_reducible refine x_gnil ?_ | with_reducible refine x_gtup (by walk_at "hfact") rfl ?_
  | with_reducible refine x_raiseBad ?_ | with_reducible refine x_raiseOwn ?_ | with_reducible refine x_isX (by assumption) (by assumption) ?_
  | with_reducible refine x_turn ?_ | with_reducible refine x_mulR (by decide) ?_ | with_reducible refine x_mulL (by decide) ?_ | with_reducible refine x_mod (by decide) ?_ | with_reducible refine x_div (by decide) ?_
  | with_reducible refine x_ixL (by walk_at "fact") rfl ?_ | with_reducible refine x_lenL (by walk_at "fact") ?_ | with_reducible refine x_lenS (by assumption) ?_ | with_reducible refine x_slS (by assumption) ?_ | with_reducible refine x_ixT (by walk_at "hfact") rfl ?_ | with_reducible refine x_ixT' (by walk_at "hfact") rfl ?_ | with_reducible refine x_tyL (by walk_at "hfact") ?_ | with_reducible refine x_setL (by walk_at "hfact") rfl ?_
  | with_reducible refine x_isi tx_bl (by walk_at "kit") ?_ | with_reducible refine x_isi tx_int (by walk_at "kit") ?_ | with_reducible refine x_isi tx_str (by walk_at "kit") ?_ | with_reducible refine x_isi tx_non (by walk_at "kit") ?_ | with_reducible refine x_isi (tx_tup (by walk_at "hfact")) (by walk_at "kit") ?_ | with_reducible refine x_isi (tx_lst (by walk_at "hfact")) (by walk_at "kit") ?_
  | with_reducible refine x_lc ?_ | with_reducible refine x_yes ?_ | with_reducible refine x_gotS ?_ | with_reducible refine x_lenT (by walk_at "hfact") ?_ | with_reducible refine x_tru ?_ | with_reducible refine x_trB ?_)
local macro_rules | `(tactic| walk_at "go") => `(tactic| repeat walk_at "go1")

/-- what is known of TooMany, an own error without an __init__ -/
structure OwnErr (K : PySem.W.Frag) (mg : Str → Option Value) (nm : Str) (C : Addr) : Prop where
  x : PySem.W.excIn K C [.type "ValueError", .type "Exception", .type "BaseException", .type "object"] "ValueError.__new__" = true
  g : mg nm = some (.ref C)
  k : PySem.W.keepIn K (.ref C) = true
  b : PySem.W.subIn K (.ref C) (.type "BaseException") = some true
  t : PySem.W.typeIn K (.ref C) = some (.type "type")
section
variable {P : Program} {w : World} {K : PySem.W.Frag} {mg : Str → Option Value} {base : Heap} {f : Addr} {fd : FuncData} {CX : CXT} {C CM fI cc cda : Addr}
theorem sc_fold_tokens : FnScope ["lines", "found", "row", "line", "token"] ["lines"] (defScope s_fold_tokens) := ⟨rfl, rfl, rfl, by decide +kernel, rfl, by decide +kernel, by decide +kernel⟩
theorem sc_present : FnScope ["folded", "configuration", "at", "row"] ["folded", "configuration"] (defScope s_present) := ⟨rfl, rfl, rfl, by decide +kernel, rfl, by decide +kernel, by decide +kernel⟩
theorem sc_law_due : FnScope ["lines", "found", "row", "at", "token"] ["lines"] (defScope s_law_due) := ⟨rfl, rfl, rfl, by decide +kernel, rfl, by decide +kernel, by decide +kernel⟩
def ResIs (H : Hp) (v : V) : Res → Prop
  | .bad r p => ∃ a, v = .ref a ∧ H a = some (.tup [.str "bad", .int (r : Int), .int (p : Int), .bl true])
  | .many => ∃ a, v = .ref a ∧ H a = some (.tup [.str "many", .bl true])
  | .ok its => ∃ a ys, v = .ref a ∧ H a = some (.lst ys) ∧ ImAll H ys (its.map itD)
def Lines (K : PySem.W.Frag) (H : Hp) (a : Addr) (xs : List V) (ls : List Ln) : Prop := SqL K H a xs ∧ ImAll H xs (ls.map Ln.d) ∧ (∀ l ∈ ls, l.ok) ∧ ls.length ≤ 100
theorem Lines.get {H : Hp} {a : Addr} {xs : List V} {ls : List Ln} (h : Lines K H a xs ls) {i : Nat} {x : V} (e : xs[i]? = some x) : ∃ l p v, ls[i]? = some l ∧ l.ok ∧ x = .ref p ∧ H p = some (.tup [.str l.z, .str "main", .int l.m, v]) ∧ Im H v l.D.d := by
  obtain ⟨_, im, ok, _⟩ := h
  have hl : i < ls.length := by
    have := (List.getElem?_eq_some_iff.mp e).1
    rw [im.length, List.length_map] at this
    exact this
  obtain ⟨x2, h1, h2⟩ := im.get (i := i) (d := ls[i].d) (by rw [List.getElem?_map, List.getElem?_eq_getElem hl]; rfl)
  rw [e] at h1
  cases h1
  obtain ⟨p, v, h3, h4, h5⟩ := Ln.im h2
  exact ⟨ls[i], p, v, List.getElem?_eq_getElem hl, ok _ (List.getElem_mem hl), h3, h4, h5⟩
theorem Lines.len {H : Hp} {a : Addr} {xs : List V} {ls : List Ln} (h : Lines K H a xs ls) : xs.length = ls.length := by
  rw [h.2.1.length, List.length_map]
theorem Lines.fr {H H' : Hp} {a : Addr} {xs : List V} {ls : List Ln} (h : Lines K H a xs ls) (f : Fr [] H H') : Lines K H' a xs ls := ⟨f.sql h.1, h.2.1.fr f, h.2.2⟩
def spFold (K : PySem.W.Frag) (C CM : Addr) : Sp := fun vs H Q E => ∃ (a : Addr) (xs : List V) (ls : List Ln), vs = [.ref a] ∧ Lines K H a xs ls ∧
  (∀ its, foldR 0 ls [] = .ok its → ∀ l ys H', H l = none → Fr [] H H' → H' l = some (.lst ys) → ImAll H' ys (its.map itD) → Q (.ref l) H') ∧
  (∀ r p, foldR 0 ls [] = .bad r p → ∀ d H', H d = none → Fr [] H H' → H' d = some (.xd [(("column" : Str), .int (p : Int)), (("row" : Str), .int (r : Int))]) → E (.ref C) (some d) H') ∧
  (foldR 0 ls [] = .many → ∀ H', Fr [] H H' → E (.ref CM) none H')
theorem map_take_snoc {α β : Type} {g : α → β} {xs : List α} {i : Nat} {x : α} (h : xs[i]? = some x) : (xs.take (i + 1)).map g = (xs.take i).map g ++ [g x] := by
  rw [get_snoc h, List.map_append]
  rfl
theorem ok_fold (T : Txt K mg) (TM : OwnErr K mg "TooMany" CM) (g_tokens_of : Got P w K mg base (L2.CX P w) "tokens_of" 5 ["text", "row"] (spToksOf C)) (F : Fun K "fold_tokens" "fold_tokens" s_fold_tokens f fd) : FnOk P w K mg base (L2.CX P w) 6 f fd ["lines"] (spFold K C CM) := by
  refine F.okX sc_fold_tokens (fun vs H Q E h => ?_) (fun cdv A outer s H vs Q E hr h => ?_)
  · obtain ⟨a, xs, ls, rfl, _⟩ := h
    rfl
  · obtain ⟨a, xs, ls, rfl, L, k, kb, km⟩ := h
    refine ⟨_, (pss_cons (ps_set (i := 1) sc_fold_tokens.nd rfl (Or.inl rfl) (pe_lst pa_nil))
      (pss_cons (ps_for (passes_of rfl) rfl (pi_enum (by rfl) T.n_enumerate (pa_cons (pv 0) pa_nil)) (pg_tup rfl (pgs_cons (pg_name (i := 2) sc_fold_tokens.nd rfl (Or.inl rfl)) (pgs_cons (pg_name (i := 3) sc_fold_tokens.nd rfl (Or.inl rfl)) pgs_nil))) (pss_cons (ps_for (passes_of rfl) rfl (pi_list (pe_gotE g_tokens_of (hr.mono (by first | decide | omega)) (passes_call (takes_of rfl rfl rfl rfl) (fun _ _ _ _ h => h)) rfl (pa_cons (pe_ix ix_seq (pv 3) pe_int (fun _ _ => rfl)) (pa_cons (pv 2) pa_nil)))) (pg_name (i := 4) sc_fold_tokens.nd rfl (Or.inl rfl)) (pss_one (ps_expr (pe_bm PySem.F.plainAttrs_list PySem.F.slot_list_append PySem.F.type_list_append mt_append (pv 1) (pa_cons (pe_tup (pa_cons (pv 4) (pa_cons (pe_ix ix_seq (pv 3) pe_int (fun _ _ => rfl)) pa_nil))) pa_nil)))))
      (pss_one (ps_if (pt_cmpR op_gt (pe_callB y_lenL (by rfl) T.n_len PySem.boot_len (pa_cons (pv 1) pa_nil)) (pe_gk rfl T.g_MAX_TOKENS) (nomark _)) (pss_one (ps_raiseOwn rfl (takes_of rfl rfl rfl rfl) TM.x rfl TM.g TM.k (raises_own TM.b TM.t) rfl)) pss_nil))))
      (pss_one (ps_ret (pv 1))))), ?_⟩
    walk_at "go"
    refine x_newL (by rfl) (fun l H0 nl fr0 hl0 => ?_)
    walk_at "go"
    refine x_itE (L.fr fr0).1 ?_
    refine x_loopE xs (fun i σ' H' => ∃ (its : List It2) (ys : List V) (y1 y2 y3 : Option V), σ' = [some (.ref a), some (.ref l), y1, y2, y3] ∧ Fr [] H H' ∧ H' l = some (.lst ys) ∧ ImAll H' ys (its.map itD) ∧ its.length ≤ 24 ∧ foldR 0 ls [] = foldR i (ls.drop i) its)
      ⟨[], [], none, none, none, rfl, fr0, hl0, .nil, by decide, rfl⟩ (fun i σ' H' hi ⟨_, _, _, _, _, _, fr, _⟩ => (L.fr fr).1) ?_ ?_
    · rintro i x t σ' H1 H2 hx ⟨its, ys, y1, y2, y3, rfl, fr1, hl, im, lits, ef⟩ nt fr2 ht
      obtain ⟨ln, p, v, hln, lok, rfl, hp, iv⟩ := (L.fr fr1).get hx
      have zl := lok.1
      have hp2 := fr2.tup hp
      walk_at "go"
      rw [drop_cons hln] at ef
      refine ⟨ln.z, (i : Int), rfl, by omega, fun hw l2 xs2 H3 nl2 fr3 hl2 im2 => ?_, fun q hw d H3 nd fr3 hd => ?_⟩
      · have n12 : l2 ≠ l := fun z => by
          rw [z, fr2.lst hl] at nl2
          cases nl2
        refine x_itL (sqL hl2) ?_
        have lys : ys.length = its.length := by rw [im.length, List.length_map]
        have lxs : xs2.length ≤ 200 := by
          have h1 : (lineToks ln.z (i : Int)).length ≤ ln.z.length := toks_len
          rw [im2.length]
          omega
        have lim := im2.length
        refine x_loopL xs2 (fun j σ' H' => ∃ (zs : List V) (y : Option V), σ' = [some (.ref a), some (.ref l), some (.int (i : Int)), some (.ref p), y] ∧ Fr [] H H' ∧ H' l2 = some (.lst xs2) ∧ H' l = some (.lst zs) ∧ H' p = some (.tup [.str ln.z, .str "main", .int ln.m, v]) ∧ Im H' v ln.D.d ∧ ImAll H' xs2 (lineToks ln.z i) ∧
            ImAll H' zs ((its ++ ((lineToks ln.z i).take j).map fun t => (t, ln.D)).map itD))
          ⟨ys, _, rfl, (fr1.trans fr2).trans fr3, hl2, fr3.lst (fr2.lst hl), fr3.tup hp2, (iv.fr fr2).fr fr3, im2, by rw [List.take_zero, List.map_nil, List.append_nil]; exact (im.fr fr2).fr fr3⟩ (fun j σ' H' hj ⟨_, _, _, _, h, _⟩ => sqL h) ?_ ?_
        · rintro j x σ' H4 hj ⟨zs, y, rfl, fr4, h2, hl4, hp4, iv4, ix4, im4⟩
          obtain ⟨hjl, _⟩ := List.getElem?_eq_some_iff.mp hj
          have ht : (lineToks ln.z (i : Int))[j]? = some ((lineToks ln.z (i : Int))[j]'(by omega)) := List.getElem?_eq_getElem (by omega)
          obtain ⟨x', hx', ix⟩ := ix4.get ht
          rw [hj] at hx'
          cases hx'
          have lzs := im4.length
          rw [List.length_map, List.length_append, List.length_map, List.length_take] at lzs
          walk_at "go"
          refine x_newT (by rfl) (fun q H5 nq fr5 hq => ?_)
          walk_at "go"
          refine x_app (fr5.lst hl4) (by omega) (fun H6 fr6 hl6 => ?_)
          have fr56 : Fr [l] H4 H6 := fr5.nil.trans fr6
          refine ⟨_, _, rfl, (fr4.trans fr5).drop fr6 nl, fr56.lst h2 (by simpa using n12), hl6, fr56.tup hp4, iv4.fr fr56, ix4.fr fr56, ?_⟩
          rw [map_take_snoc ht, ← List.append_assoc, List.map_append]
          refine ((im4.fr fr5).snoc (d := itD ((lineToks ln.z (i : Int))[j]'(by omega), ln.D)) ?_).fr fr6
          exact .tup hq (.cons (ix.fr fr5) (.cons (iv4.fr fr5) .nil))
        · rintro σ' H4 ⟨zs, y, rfl, fr4, h2, hl4, hp4, iv4, ix4, im4⟩
          rw [List.take_of_length_le (by omega)] at im4
          have lzs := im4.length
          rw [List.length_map] at lzs
          have lz2 := lzs
          rw [List.length_append, List.length_map] at lz2
          walk_at "go"
          refine x_dec (fun hgt => ?_) (fun hle => ?_)
          · walk_at "go"
            exact km (ef.trans (foldR_many hw (by omega))) H4 fr4
          · walk_at "go"
            exact ⟨_, zs, _, _, _, rfl, fr4, hl4, im4, by omega, ef.trans (foldR_next hw (by omega))⟩
      · exact kb i q (ef.trans (foldR_bad hw)) d H3 ((fr1.trans fr2).free nd) ((fr1.trans fr2).trans fr3) hd
    · rintro σ' H1 ⟨its, ys, y1, y2, y3, rfl, fr1, hl, im, lits, ef⟩
      walk_at "go"
      rw [L.len, List.drop_length] at ef
      exact k its ef l ys H1 nl fr1 hl im
def spPresent (K : PySem.W.Frag) : Sp := fun vs H Q _ => ∃ (a c : Addr) (ys : List V) (its : List It2) (p q : Bool), vs = [.ref a, .ref c] ∧ SqL K H a ys ∧ ImAll H ys (its.map itD) ∧ its.length ≤ 24 ∧ (∀ t ∈ its, t.2.ok ∧ t.2.dep ≤ 2) ∧ H c = some (.tup (cfV p q)) ∧
  ∀ l H', H l = none → Fr [] H H' → H' l = some (.lst (natV (hits its (cf p q) its.length))) → Q (.ref l) H'
theorem its_get {H : Hp} {ys : List V} {its : List It2} (im : ImAll H ys (its.map itD)) {i : Nat} {x : V} (e : ys[i]? = some x) : ∃ t p u v, its[i]? = some t ∧ x = .ref p ∧ H p = some (.tup [u, v]) ∧ Im H u t.1 ∧ Im H v t.2.d ∧ t ∈ its := by
  have hl : i < its.length := by
    have := (List.getElem?_eq_some_iff.mp e).1
    rw [im.length, List.length_map] at this
    exact this
  obtain ⟨x2, h1, h2⟩ := im.get (i := i) (d := itD its[i]) (by rw [List.getElem?_map, List.getElem?_eq_getElem hl]; rfl)
  rw [e] at h1
  cases h1
  obtain ⟨p, u, v, h3, h4, h5, h6⟩ := It2.im h2
  exact ⟨its[i], p, u, v, List.getElem?_eq_getElem hl, h3, h4, h5, h6, List.getElem_mem hl⟩
theorem ok_present (T : Txt K mg) (g_holds : Got P w K mg base CX0 "holds" 1 ["d", "configuration"] spHolds) (F : Fun K "present" "present" s_present f fd) : FnOk P w K mg base CX0 2 f fd ["folded", "configuration"] (spPresent K) := by
  refine F.ok sc_present (fun vs H Q E h => ?_) (fun cdv A outer s H vs Q E hr h => ?_)
  · obtain ⟨a, c, ys, its, p, q, rfl, _⟩ := h
    rfl
  · obtain ⟨a, c, ys, its, p, q, rfl, hS, im, l24, ok, hc, k⟩ := h
    have lys : ys.length = its.length := by rw [im.length, List.length_map]
    refine ⟨_, (pss_one (ps_ret (pe_lc (own := [("at", 2), ("row", 3)]) (g := gTup K 2 (gCons (gName 2) (gCons (gName 3) gNil))) (tt := (tTru K (tGot spHolds E0 (tCons (tOp (rIx K) (tVar 3) (tC (.int 1))) (tCons (tVar 1) tNil))))) (te := (tVar 2)) rfl sc_present.nd (pi_enum (by rfl) T.n_enumerate (pa_cons (pv 0) pa_nil)) (blkOk_by (own := [("at", 2), ("row", 3)]) (N := ["folded", "configuration", "at", "row"]) (sc := defScope s_present) (by decide +kernel)) (fun _ _ _ _ _ => (pg_tup rfl (pgs_cons (pg_name (i := 2) sc_present.nd rfl (Or.inl rfl)) (pgs_cons (pg_name (i := 3) sc_present.nd rfl (Or.inl rfl)) pgs_nil)))) (fun _ _ _ _ _ => (pts_one (pt_tru (pe_got g_holds (hr.mono (by first | decide | omega)) rfl (pa_cons (pe_ix ix_seq (pv 3) pe_int (fun _ _ => rfl)) (pa_cons (pv 1) pa_nil))) (by intro _; rfl)))) (fun _ _ _ _ _ => (pv 2))))), ?_⟩
    walk_at "go"
    refine x_itE hS ?_
    refine x_lcE ys (fun D i zs H' => Fr [] H H' ∧ zs = natV (hits its (cf p q) i)) (fun D H2 hD fr _ => ⟨fr, rfl⟩) (fun D i zs H' hD hi ⟨fr, _⟩ _ => fr.sql hS) ?_ ?_
    · rintro D i x t zs H1 H2 hD hx hl le ⟨fr, ez⟩ nt fr2 ht
      obtain ⟨it, pp, u, v, hit, rfl, hp, iu, iv, mem⟩ := its_get (im.fr fr) hx
      have hil := (List.getElem?_eq_some_iff.mp hx).1
      walk_at "go"
      refine ⟨rfl, ?_⟩
      walk_at "go"
      refine x_ixT' (fr2.tup hp) rfl ?_
      walk_at "go"
      refine ⟨v, c, it.2, p, q, rfl, iv.fr fr2, (ok _ mem).1, (ok _ mem).2, fr2.tup (fr.tup hc), ?_⟩
      refine ⟨_, rfl, ?_⟩
      refine ite2 (fun e => ?_) (fun e => ?_)
      · walk_at "go"
        refine x_put (fr2.lst hl) le (by omega) (fun H4 fr4 h4 => ⟨(fr.trans fr2).drop fr4 hD, ?_⟩)
        rw [hits_yes hit e, ez]
        unfold natV
        rw [List.map_append]
        rfl
      · refine ⟨zs, fr2.lst hl, by omega, fr.trans fr2, ?_⟩
        rw [hits_no hit (by simpa using e), ez]
    · rintro D zs H1 hD ⟨fr, ez⟩ hl le
      rw [ez, lys] at hl
      exact k D H1 hD fr hl
end
end My
namespace My
open PySem PySem.Spec L2
local macro_rules | `(tactic| walk_at "fact") => `(tactic| first | assumption | exact sqL (by assumption) | exact sqL upd_same | exact Fr.sql (by assumption) (by assumption))
local macro_rules | `(tactic| walk_at "hfact") => `(tactic| first | assumption | exact upd_same)
local macro_rules | `(tactic| walk_at "kit") => `(tactic| first
  | exact kb_bool_tuple | exact kb_bool_list | exact kb_bool_dict | exact kb_bool_bool | exact kb_bool_int | exact kb_bool_str | exact kb_int_tuple | exact kb_int_list | exact kb_int_dict | exact kb_int_bool | exact kb_int_int | exact kb_int_str
  | exact kb_str_tuple | exact kb_str_list | exact kb_str_dict | exact kb_str_bool | exact kb_str_int | exact kb_str_str | exact kb_none_tuple | exact kb_none_list | exact kb_none_dict | exact kb_none_bool | exact kb_none_int | exact kb_none_str
  | exact kb_tuple_tuple | exact kb_tuple_list | exact kb_tuple_dict | exact kb_tuple_bool | exact kb_tuple_int | exact kb_tuple_str | exact kb_list_tuple | exact kb_list_list | exact kb_list_dict | exact kb_list_bool | exact kb_list_int | exact kb_list_str
  | exact kb_dict_tuple | exact kb_dict_list | exact kb_dict_dict)
local macro_rules | `(tactic| walk_at "go1") => `(tactic| first
  | with_reducible refine x_var rfl ?_ | with_reducible refine x_c ?_ | with_reducible refine x_seq ?_ | with_reducible refine x_asg ?_ | with_reducible refine x_gname ?_ | with_reducible refine x_op ?_
  | with_reducible refine x_rI0 ?_ | with_reducible refine x_eqI ?_ | with_reducible refine x_eqS ?_ | with_reducible refine x_eqB ?_ | with_reducible refine x_neI ?_ | with_reducible refine x_neS ?_ | with_reducible refine x_test ?_ | with_reducible refine x_tB ?_ | with_reducible refine x_bl ?_
  | with_reducible refine x_if ?_ | with_reducible refine x_and ?_ | with_reducible refine x_or ?_ | with_reducible refine x_not ?_ | with_reducible refine x_andV ?_ | with_reducible refine x_orV ?_ | with_reducible refine x_notV ?_ | with_reducible refine x_ifE ?_ | with_reducible refine x_chain ?_
  | with_reducible refine x_cons ?_ | with_reducible refine x_nil ?_ | with_reducible refine x_cb ?_ | with_reducible refine x_got ?_ | with_reducible refine x_un ?_ | with_reducible refine x_rU ?_ | with_reducible refine x_int1 ?_
  | with_reducible refine x_ret ?_ | with_reducible refine x_retN ?_ | with_reducible refine x_next ?_ | with_reducible refine x_drop ?_ | with_reducible refine x_aug rfl ?_ | with_reducible refine x_ipI ?_ | with_reducible refine x_gsub ?_
  | with_reducible refine x_break ?_ | with_reducible refine x_cont ?_ | with_reducible refine x_slice ?_ | with_reducible refine x_noPart ?_ | with_reducible refine x_part ?_ | with_reducible refine x_int ?_ | with_reducible refine x_bm ?_ | with_reducible refine x_bm0 ?_
  | with_reducible refine x_tupQ ?_ | with_reducible refine x_lstQ ?_ | with_reducible refine x_inC ?_ | with_reducible refine x_notInC ?_ | with_reducible refine x_T ?_ | with_reducible refine x_F ?_ | with_reducible refine x_nT ?_ | with_reducible refine x_nF ?_
  | with_reducible refine x_for ?_ | with_reducible refine x_iR1 ?_ | with_reducible refine x_iL ?_ | with_reducible refine x_iT ?_ | with_reducible refine x_iE ?_ | with_reducible refine x_gcons ?_ | with_reducible refine x_gnil ?_ | with_reducible refine x_gtup (by walk_at "hfact") rfl ?_
  | with_reducible refine x_raiseBad ?_ | with_reducible refine x_raiseOwn ?_ | with_reducible refine x_isX (by assumption) (by assumption) ?_
  | with_reducible refine x_turn ?_ | with_reducible refine x_mulR (by decide) ?_ | with_reducible refine x_mulL (by decide) ?_ | with_reducible refine x_mod (by decide) ?_ | with_reducible refine x_div (by decide) ?_
  | with_reducible refine x_ixL (by walk_at "fact") rfl ?_ | with_reducible refine x_lenL (by walk_at "fact") ?_ | with_reducible refine x_lenS (by assumption) ?_ | with_reducible refine x_slS (by assumption) ?_ | with_reducible refine x_ixT (by walk_at "hfact") rfl ?_ | with_reducible refine x_ixT' (by walk_at "hfact") rfl ?_ | with_reducible refine x_tyL (by walk_at "hfact") ?_ | with_reducible refine x_setL (by walk_at "hfact") rfl ?_
  | with_reducible refine x_isi tx_bl (by walk_at "kit") ?_ | with_reducible refine x_isi tx_int (by walk_at "kit") ?_ | with_reducible refine x_isi tx_str (by walk_at "kit") ?_ | with_reducible refine x_isi tx_non (by walk_at "kit") ?_ | with_reducible refine x_isi (tx_tup (by walk_at "hfact")) (by walk_at "kit") ?_ | with_reducible refine x_isi (tx_lst (by walk_at "hfact")) (by walk_at "kit") ?_
  | with_reducible refine x_lc ?_ | with_reducible refine x_yes ?_ | with_reducible refine x_gotS ?_ | with_reducible refine x_lenT (by walk_at "hfact") ?_ | with_reducible refine x_tru ?_ | with_reducible refine x_trB ?_)
local macro_rules | `(tactic| walk_at "go") => `(tactic| repeat walk_at "go1")

section
variable {K : PySem.W.Frag} {σ : L2.St} {H : Hp} {Q : VK}
def XfR (a : Addr) (cls : Value) (d : Option Addr) (C : Addr) (f : Str) (Q : VK) : VK := fun x H1 => x = .ref a ∧ cls = .ref C ∧ ∃ (dd : Addr) (fs : List (Str × V)) (v : V), d = some dd ∧ H1 dd = some (.xd fs) ∧ fs.lookup f = some v ∧ Q v H1
theorem x_xf {a C : Addr} {cls : Value} {d : Option Addr} {f : Str} {te : TE} (k : te σ H (XfR a cls d C f Q)) : tXf a cls d C f te σ H Q := k
theorem x_xfR {a C dd : Addr} {f : Str} {fs : List (Str × V)} {v : V} (h : H dd = some (.xd fs)) (hl : fs.lookup f = some v) (k : Q v H) : XfR a (.ref C) (some dd) C f Q (.ref a) H := ⟨rfl, rfl, dd, fs, v, rfl, h, hl, k⟩
theorem x_listOf {a : Addr} {xs : List V} (h : SqL K H a xs) (k : ∀ p H', H p = none → Fr [] H H' → H' p = some (.lst xs) → Q (.ref p) H') : rListOf K [.ref a] H Q := ⟨a, xs, rfl, .inl h, fun p hp => k p _ hp (Fr.new hp) upd_same⟩
theorem x_notFalseD {v : V} {D : Dg} (im : Im H v D.d) (h1 : Q (.bl true) H) (h2 : Q (.bl false) H) : rNotFalse v (.bl false) H Q := by
  rcases D.im im with ⟨b, rfl, rfl⟩ | ⟨i, lo, hi, t, a, b, rfl, rfl, ht, ia, ib⟩
  · cases b with
    | true => exact x_notFalseB h1
    | false => exact x_notFalseB h2
  · exact x_notFalseR h1
end
theorem look_row (p r : V) : List.lookup ("row" : Str) [(("column" : Str), p), (("row" : Str), r)] = some r := by
  have h : (("row" : Str) == ("column" : Str)) = false := by decide +kernel
  have h2 : (("row" : Str) == ("row" : Str)) = true := by decide +kernel
  simp only [List.lookup, h, h2]
theorem look_col (p r : V) : List.lookup ("column" : Str) [(("column" : Str), p), (("row" : Str), r)] = some p := by
  have h : (("column" : Str) == ("column" : Str)) = true := by decide +kernel
  simp only [List.lookup, h]
/-! ### data of small depth -/
def wd : Nat → PyData → Prop
  | 0, _ => False
  | _ + 1, .none => True
  | _ + 1, .bool _ => True
  | _ + 1, .int _ => True
  | _ + 1, .str _ => True
  | n + 1, .tuple ds => ds.length ≤ 100000 ∧ ∀ d ∈ ds, wd n d
  | _ + 1, _ => False
theorem im_rp {H : Hp} : ∀ {n : Nat} {d : PyData} {v : V}, wd n d → Im H v d → Rp n H v d
  | 0, _, _, h, _ => h.elim
  | n + 1, .none, _, _, .non => .inl ⟨rfl, rfl⟩
  | n + 1, .bool b, _, _, .bl _ => .inr (.inl ⟨b, rfl, rfl⟩)
  | n + 1, .int i, _, _, .int _ => .inr (.inr (.inl ⟨i, rfl, rfl⟩))
  | n + 1, .str z, _, _, .str _ => .inr (.inr (.inr (.inl ⟨z, rfl, rfl⟩)))
  | n + 1, .tuple ds, _, h, .tup hp im => .inr (.inr (.inr (.inr ⟨_, _, ds, rfl, im.length, h.1, .inl ⟨hp, rfl⟩, fun i x e h1 h2 => by
      obtain ⟨v, h3, h4⟩ := im.get h2
      rw [h1] at h3
      cases h3
      exact im_rp (h.2 e (List.mem_of_getElem? h2)) h4⟩)))
theorem list_rp {H : Hp} {n : Nat} {a : Addr} {xs : List V} {ds : List PyData} (h : H a = some (.lst xs)) (im : ImAll H xs ds) (hl : ds.length ≤ 100000) (hw : ∀ d ∈ ds, wd n d) : Rp (n + 1) H (.ref a) (.list ds) :=
  .inr (.inr (.inr (.inr ⟨_, _, ds, rfl, im.length, hl, .inr ⟨h, rfl⟩, fun i x e h1 h2 => by
      obtain ⟨v, h3, h4⟩ := im.get h2
      rw [h1] at h3
      cases h3
      exact im_rp (hw e (List.mem_of_getElem? h2)) h4⟩)))
theorem wd_dg : ∀ {D : Dg} {n : Nat}, D.dep ≤ n → wd (n + 1) D.d
  | .leaf b, _, _ => trivial
  | .node i lo hi, 0, h => absurd h (by simp [Dg.dep])
  | .node i lo hi, n + 1, h => by
    have d1 : lo.dep ≤ max lo.dep hi.dep := Nat.le_max_left _ _
    have d2 : hi.dep ≤ max lo.dep hi.dep := Nat.le_max_right _ _
    have h' : max lo.dep hi.dep + 1 ≤ n + 1 := h
    refine ⟨Nat.le_of_ble_eq_true rfl, fun d hd => ?_⟩
    rcases List.mem_cons.mp hd with rfl | hd
    · trivial
    · rcases List.mem_cons.mp hd with rfl | hd
      · exact wd_dg (by omega)
      · rcases List.mem_cons.mp hd with rfl | hd
        · exact wd_dg (by omega)
        · cases hd
theorem wd_toks {z : Str} {row : Int} {m : Nat} : ∀ {n j : Nat} {g : Bool}, ∀ d ∈ toks z row n j g, wd (m + 2) d
  | 0, j, g, d, h => by cases h
  | n + 1, j, g, d, h => by
    unfold toks at h
    cases hc : (cs z)[j]? with
    | none =>
      rw [hc] at h
      cases h
    | some c =>
      rw [hc] at h
      by_cases e : c = 32
      · have h : d ∈ (if c = 32 then toks z row n (j + 1) false else tokD z row j g c :: toks z row n (over z j c) true) := h
        rw [if_pos e] at h
        exact wd_toks d h
      · have h : d ∈ (if c = 32 then toks z row n (j + 1) false else tokD z row j g c :: toks z row n (over z j c) true) := h
        rw [if_neg e] at h
        rcases List.mem_cons.mp h with rfl | h
        · refine ⟨Nat.le_of_ble_eq_true rfl, fun d hd => ?_⟩
          simp only [List.mem_cons, List.not_mem_nil, or_false] at hd
          rcases hd with rfl | rfl | rfl | rfl | rfl <;> trivial
        · exact wd_toks d h
/-! ### what law compares -/
def CutIs (H : Hp) (v : V) (z : Str) (row : Int) : Prop := (∃ p : Nat, wrong z = some p ∧ ∃ a, v = .ref a ∧ H a = some (.tup [.str "bad", .int row, .int (p : Int), .bl true])) ∨ (wrong z = none ∧ ∃ a ys, v = .ref a ∧ H a = some (.lst ys) ∧ ImAll H ys (lineToks z row))
def cutD (z : Str) (row : Int) : PyData := match wrong z with
  | some p => .tuple [.str "bad", .int row, .int (p : Int), .bool true]
  | none => .list (lineToks z row)
theorem CutIs.rp {H : Hp} {v : V} {z : Str} {row : Int} (hz : z.length ≤ 100000) (h : CutIs H v z row) : Rp 6 H v (cutD z row) := by
  rcases h with ⟨p, hw, a, rfl, ha⟩ | ⟨hw, a, ys, rfl, ha, im⟩
  · unfold cutD
    rw [hw]
    refine im_rp ⟨Nat.le_of_ble_eq_true rfl, fun d hd => ?_⟩ (.tup ha (.cons (.str _) (.cons (.int _) (.cons (.int _) (.cons (.bl _) .nil)))))
    simp only [List.mem_cons, List.not_mem_nil, or_false] at hd
    rcases hd with rfl | rfl | rfl | rfl <;> trivial
  · unfold cutD
    rw [hw]
    refine list_rp ha im ?_ (fun d hd => wd_toks (m := 3) d hd)
    have : (lineToks z row).length ≤ z.length := toks_len
    show (lineToks z row).length ≤ 100000
    omega
def Res.d : Res → PyData
  | .bad r p => .tuple [.str "bad", .int (r : Int), .int (p : Int), .bool true]
  | .many => .tuple [.str "many", .bool true]
  | .ok its => .list (its.map itD)
theorem ResIs.rp {H : Hp} {v : V} {ls : List Ln} (ok : ∀ l ∈ ls, l.ok) (h : ResIs H v (foldR 0 ls [])) : Rp 6 H v (foldR 0 ls []).d := by
  generalize e : foldR 0 ls [] = r at h
  cases r with
  | bad r p =>
    obtain ⟨a, rfl, ha⟩ := h
    refine im_rp ⟨Nat.le_of_ble_eq_true rfl, fun d hd => ?_⟩ (.tup ha (.cons (.str _) (.cons (.int _) (.cons (.int _) (.cons (.bl _) .nil)))))
    simp only [List.mem_cons, List.not_mem_nil, or_false] at hd
    rcases hd with rfl | rfl | rfl | rfl <;> trivial
  | many =>
    obtain ⟨a, rfl, ha⟩ := h
    refine im_rp ⟨Nat.le_of_ble_eq_true rfl, fun d hd => ?_⟩ (.tup ha (.cons (.str _) (.cons (.bl _) .nil)))
    simp only [List.mem_cons, List.not_mem_nil, or_false] at hd
    rcases hd with rfl | rfl <;> trivial
  | ok its =>
    obtain ⟨a, ys, rfl, ha, im⟩ := h
    have hl := foldR_len (by decide) e
    refine list_rp ha im ?_ (fun d hd => ?_)
    · rw [List.length_map]
      show its.length ≤ 100000
      omega
    · obtain ⟨t, ht, rfl⟩ := List.mem_map.mp hd
      rcases foldR_mem e t ht with h | ⟨l, hl, e1, r, e2⟩
      · cases h
      · have o := ok l hl
        refine ⟨Nat.le_of_ble_eq_true rfl, fun d hd => ?_⟩
        simp only [List.mem_cons, List.not_mem_nil, or_false] at hd
        rcases hd with rfl | rfl
        · exact wd_toks (m := 2) _ e2
        · rw [e1]
          exact wd_dg (n := 3) (by have := o.2.2; omega)
theorem natV_im {H : Hp} : ∀ {l : List Nat}, ImAll H (natV l) (l.map fun i : Nat => PyData.int (i : Int))
  | [] => .nil
  | _ :: _ => .cons (.int _) natV_im
theorem natV_rp {H : Hp} {a : Addr} {l : List Nat} (h : H a = some (.lst (natV l))) (hl : l.length ≤ 100000) : Rp 6 H (.ref a) (.list (l.map fun i : Nat => PyData.int (i : Int))) :=
  list_rp h natV_im (by rw [List.length_map]; exact hl) (fun d hd => by
    obtain ⟨i, _, rfl⟩ := List.mem_map.mp hd
    trivial)
theorem two_at {i : Nat} {x : V} (h : ([V.int 0, V.int 1] : List V)[i]? = some x) : ∃ b, x = .int (bi b) := by
  match i, h with
  | 0, h => exact ⟨false, (Option.some.inj h).symm⟩
  | 1, h => exact ⟨true, (Option.some.inj h).symm⟩
/-- what is known of the errors' classes -/
structure ErrF (K : PySem.W.Frag) (mg : Str → Option Value) (C CM CF : Addr) : Prop where
  gF : mg "FoldError" = some (.ref CF)
  xf : XfC K C
  e1 : PySem.W.exmOne K (.ref C) (.ref C) = some true
  e2 : PySem.W.exmOne K (.ref CM) (.ref C) = some false
  e3 : PySem.W.exmOne K (.ref CM) (.ref CM) = some true
  t1 : ExcTell K C (.ref CF) true
  t2 : ExcTell K CM (.ref CF) true
def tsBad (C CF : Addr) (K : PySem.W.Frag) : Addr → Value → Option Addr → TS := fun a cls d => tRet (tTup (tCons (tC (.str "bad")) (tCons (tXf a cls d C "row" (tVar 2)) (tCons (tXf a cls d C "column" (tVar 2)) (tCons (tCB (rIsX K a cls d) (tCons (tVar 2) (tCons (tC (.ref CF)) tNil))) tNil)))))
def tsBad1 (C CF : Addr) (K : PySem.W.Frag) : Addr → Value → Option Addr → TS := fun a cls d => tRet (tTup (tCons (tC (.str "bad")) (tCons (tXf a cls d C "row" (tVar 1)) (tCons (tXf a cls d C "column" (tVar 1)) (tCons (tCB (rIsX K a cls d) (tCons (tVar 1) (tCons (tC (.ref CF)) tNil))) tNil)))))
def tsMany (CF : Addr) (K : PySem.W.Frag) : Addr → Value → Option Addr → TS := fun a cls d => tRet (tTup (tCons (tC (.str "many")) (tCons (tCB (rIsX K a cls d) (tCons (tVar 1) (tCons (tC (.ref CF)) tNil))) tNil)))
section
variable {P : Program} {w : World} {K : PySem.W.Frag} {mg : Str → Option Value} {base : Heap} {f : Addr} {fd : FuncData} {CX : CXT} {C CM CF fI cc cda : Addr}
theorem sc_law_cut : FnScope ["text", "row", "why"] ["text", "row"] (defScope s_law_cut) := ⟨rfl, rfl, rfl, by decide +kernel, rfl, by decide +kernel, by decide +kernel⟩
theorem sc_law_told : FnScope ["lines", "why"] ["lines"] (defScope s_law_told) := ⟨rfl, rfl, rfl, by decide +kernel, rfl, by decide +kernel, by decide +kernel⟩
theorem sc_law : FnScope ["script", "tape", "text", "row", "at", "due", "lines", "k", "diagram", "told", "one", "two", "shown", "d", "bit"] ["script"] (defScope s_law) := ⟨rfl, rfl, rfl, by decide +kernel, rfl, by decide +kernel, by decide +kernel⟩
def spDue (K : PySem.W.Frag) : Sp := fun vs H Q E => ∃ (a : Addr) (xs : List V) (ls : List Ln), vs = [.ref a] ∧ Lines K H a xs ls ∧ ∀ v H', Fr [] H H' → ResIs H' v (foldR 0 ls []) → Q v H'
theorem ok_due (T : Txt K mg) (g_law_wrong : Got P w K mg base CX0 "_law_wrong" 1 ["text"] spWrong) (g_law_tokens : Got P w K mg base CX0 "_law_tokens" 2 ["text", "row"] spToks) (F : Fun K "_law_due" "_law_due" s_law_due f fd) : FnOk P w K mg base CX0 3 f fd ["lines"] (spDue K) := by
  refine F.ok sc_law_due (fun vs H Q E h => ?_) (fun cdv A outer s H vs Q E hr h => ?_)
  · obtain ⟨a, xs, ls, rfl, _⟩ := h
    rfl
  · obtain ⟨a, xs, ls, rfl, L, k⟩ := h
    refine ⟨_, (pss_cons (ps_set (i := 1) sc_law_due.nd rfl (Or.inl rfl) (pe_lst pa_nil))
      (pss_cons (ps_for PassesOwn.never rfl (pi_range1 rfl T.n_range (pa_cons (pe_callB y_lenL (by rfl) T.n_len PySem.boot_len (pa_cons (pv 0) pa_nil)) pa_nil)) (pg_name (i := 2) sc_law_due.nd rfl (Or.inr rfl)) (pss_cons (ps_set (i := 3) sc_law_due.nd rfl (Or.inl rfl) (pe_got g_law_wrong (hr.mono (by first | decide | omega)) rfl (pa_cons (pe_ix ix_seq (pe_ix ix_list (pv 0) (pv 2) (fun _ _ => rfl)) pe_int (fun _ _ => rfl)) pa_nil)))
      (pss_cons (ps_if (pt_cmpR op_ge (pv 3) pe_int (nomark _)) (pss_one (ps_ret (pe_tup (pa_cons pe_str (pa_cons (pv 2) (pa_cons (pv 3) (pa_cons pe_bl pa_nil))))))) pss_nil)
      (pss_cons (ps_expr (pe_bm PySem.F.plainAttrs_list PySem.F.slot_list_extend PySem.F.type_list_extend mt_extend (pv 1) (pa_cons (pe_lc (own := [("token", 4)]) (g := gName 4) (tt := tYes) (te := (tTup (tCons (tVar 4) (tCons (tOp (rIx K) (tOp (rIxL K) (tVar 0) (tVar 2)) (tC (.int 3))) tNil)))) rfl sc_law_due.nd (pi_list (pe_got g_law_tokens (hr.mono (by first | decide | omega)) rfl (pa_cons (pe_ix ix_seq (pe_ix ix_list (pv 0) (pv 2) (fun _ _ => rfl)) pe_int (fun _ _ => rfl)) (pa_cons (pv 2) pa_nil)))) (blkOk_by (own := [("token", 4)]) (N := ["lines", "found", "row", "at", "token"]) (sc := defScope s_law_due) (by decide +kernel)) (fun _ _ _ _ _ => (pg_name (i := 4) sc_law_due.nd rfl (Or.inl rfl))) (fun _ _ _ _ _ => pts_nil) (fun _ _ _ _ _ => (pe_tup (pa_cons (pv 4) (pa_cons (pe_ix ix_seq (pe_ix ix_list (pv 0) (pv 2) (fun _ _ => rfl)) pe_int (fun _ _ => rfl)) pa_nil))))) pa_nil)))
      (pss_one (ps_if (pt_cmpR op_gt (pe_callB y_lenL (by rfl) T.n_len PySem.boot_len (pa_cons (pv 1) pa_nil)) pe_int (nomark _)) (pss_one (ps_ret (pe_tup (pa_cons pe_str (pa_cons pe_bl pa_nil))))) pss_nil))))))
      (pss_one (ps_ret (pv 1))))), ?_⟩
    walk_at "go"
    refine x_newL (by rfl) (fun l H0 nl fr0 hl0 => ?_)
    have hS0 := (L.fr fr0).1
    walk_at "go"
    have hxl := L.len
    have hll := L.2.2.2
    refine x_lenL hS0 ?_
    walk_at "go"
    refine x_rng (n := xs.length) (by omega) ?_
    refine x_loopN (fun i σ' H' => ∃ (its : List It2) (ys : List V) (y1 y2 : Option V), σ' = [some (.ref a), some (.ref l), y1, y2, none] ∧ Fr [] H H' ∧ H' l = some (.lst ys) ∧ ImAll H' ys (its.map itD) ∧ its.length ≤ 24 ∧ foldR 0 ls [] = foldR i (ls.drop i) its)
      ⟨[], [], none, none, rfl, fr0, hl0, .nil, by decide, rfl⟩ ?_ ?_
    · rintro i σ' H1 hi ⟨its, ys, y1, y2, rfl, fr1, hl, im, lits, ef⟩
      obtain ⟨ln, p, v, hln, lok, hx, hp, iv⟩ := (L.fr fr1).get (List.getElem?_eq_getElem hi)
      have hxi : xs[i]? = some (.ref p) := by rw [List.getElem?_eq_getElem hi, hx]
      have zl := lok.1
      have hS1 := (L.fr fr1).1
      have lys : ys.length = its.length := by rw [im.length, List.length_map]
      rw [drop_cons hln] at ef
      walk_at "go"
      refine x_ixL hS1 (atI_nat hxi) ?_
      walk_at "go"
      refine ⟨ln.z, rfl, by omega, ?_⟩
      cases hw : wrong ln.z with
      | some q =>
        have e : wrongI ln.z = (q : Int) := by unfold wrongI; rw [hw]
        rw [e]
        walk_at "go"
        refine x_decT (by omega) ?_
        walk_at "go"
        refine x_newT (by rfl) (fun r H2 nr fr2 hr2 => ?_)
        refine k _ _ (fr1.trans fr2) ?_
        rw [ef.trans (foldR_bad hw)]
        exact ⟨r, rfl, hr2⟩
      | none =>
        have e : wrongI ln.z = -1 := by unfold wrongI; rw [hw]
        rw [e]
        walk_at "go"
        refine x_decF (by decide) ?_
        walk_at "go"
        refine x_ixL hS1 (atI_nat hxi) ?_
        walk_at "go"
        refine ⟨ln.z, (i : Int), rfl, by omega, fun l2 xs2 H2 nl2 fr2 hl2 im2 => ?_⟩
        refine x_itL (sqL hl2) ?_
        have lxs : xs2.length ≤ 200 := by
          have h1 : (lineToks ln.z (i : Int)).length ≤ ln.z.length := toks_len
          rw [im2.length]
          omega
        have lim := im2.length
        have fr12 := fr1.trans fr2
        refine x_lcL xs2 (fun D j zs H' => Fr [] H2 H' ∧ ImAll H' zs (((lineToks ln.z i).take j).map fun t => itD (t, ln.D))) (fun _ => rfl) (fun D H' hD fr _ => ⟨fr, by rw [List.take_zero]; exact .nil⟩) (fun D j zs H' hD hj ⟨fr, _⟩ _ => sqL (fr.lst hl2)) ?_ ?_
        · rintro D j x zs H3 hD hj hl3 le ⟨fr3, im3⟩
          obtain ⟨hjl, _⟩ := List.getElem?_eq_some_iff.mp hj
          have ht : (lineToks ln.z (i : Int))[j]? = some ((lineToks ln.z (i : Int))[j]'(by omega)) := List.getElem?_eq_getElem (by omega)
          obtain ⟨x', hx', ix⟩ := im2.get ht
          rw [hj] at hx'
          cases hx'
          walk_at "go"
          refine x_ixL (fr3.sql (fr2.sql hS1)) (atI_nat hxi) ?_
          walk_at "go"
          refine x_ixT' (fr3.tup (fr2.tup hp)) rfl ?_
          walk_at "go"
          refine x_newT (by rfl) (fun q H4 nq fr4 hq => ?_)
          refine x_put (fr4.lst hl3) le (by omega) (fun H5 fr5 h5 => ⟨(fr3.trans fr4).drop fr5 hD, ?_⟩)
          rw [map_take_snoc ht]
          exact ((im3.fr fr4).snoc (.tup hq (.cons ((ix.fr fr3).fr fr4) (.cons (((iv.fr fr2).fr fr3).fr fr4) .nil)))).fr fr5
        · rintro D zs H3 hD ⟨fr3, im3⟩ hl3 le
          rw [List.take_of_length_le (by omega)] at im3
          walk_at "go"
          refine x_extend (fr3.lst (fr2.lst hl)) hl3 (by omega) (fun H4 fr4 hl4 => ?_)
          have im4 : ImAll H4 (ys ++ zs) ((its ++ (lineToks ln.z i).map fun t => (t, ln.D)).map itD) := by
            rw [List.map_append, List.map_map]
            exact ((((im.fr fr2).fr fr3)).append im3).fr fr4
          have l4 := im4.length
          rw [List.length_map] at l4
          have fr14 : Fr [] H H4 := (fr12.trans fr3).drop fr4 nl
          walk_at "go"
          refine x_dec (fun hgt => ?_) (fun hle => ?_)
          · walk_at "go"
            refine x_newT (by rfl) (fun r H5 nr fr5 hr5 => ?_)
            refine k _ _ (fr14.trans fr5) ?_
            rw [ef.trans (foldR_many hw (by omega))]
            exact ⟨r, rfl, hr5⟩
          · walk_at "go"
            exact ⟨_, _, _, _, rfl, fr14, hl4, im4, by omega, ef.trans (foldR_next hw (by omega))⟩
    · rintro σ' H1 ⟨its, ys, y1, y2, rfl, fr1, hl, im, lits, ef⟩
      walk_at "go"
      refine k _ _ fr1 ?_
      rw [hxl, List.drop_length] at ef
      rw [ef]
      exact ⟨l, ys, rfl, hl, im⟩
def spCut : Sp := fun vs H Q E => ∃ (z : Str) (row : Int), vs = [.str z, .int row] ∧ z.length ≤ 100000 ∧ ∀ v H', Fr [] H H' → CutIs H' v z row → Q v H'
theorem ok_cut (T : Txt K mg) (TB : PySem.BadX.BadTxt P K mg C fI cc cda) (EF : ErrF K mg C CM CF) (g_tokens_of : Got P w K mg base (L2.CX P w) "tokens_of" 5 ["text", "row"] (spToksOf C)) (F : Fun K "_law_cut" "_law_cut" s_law_cut f fd) : FnOk P w K mg base CX0 6 f fd ["text", "row"] spCut := by
  refine F.ok sc_law_cut (fun vs H Q E h => ?_) (fun cdv A outer s H vs Q E hr h => ?_)
  · obtain ⟨z, row, rfl, _⟩ := h
    rfl
  · obtain ⟨z, row, rfl, hz, k⟩ := h
    refine ⟨_, (pss_one (ps_try_manyAs (l := [(2, .ref C, tsBad C CF K)]) (Wout := fun _ _ _ _ => False) (tb := fun W => tRet (tCallS (spToksOf C) (WE W) (tCons (tVar 0) (tCons (tVar 1) tNil)))) rfl rfl sc_law_cut.nd takes0
      (fun W pn xe tk _ => pss_one (ps_ret (by exact pe_gotS g_tokens_of (hr.mono (by decide)) (fun σ => passAt tk σ) rfl (pa_cons (pv 0) (pa_cons (pv 1) pa_nil)))))
      (.cons rfl rfl ⟨rfl, by decide, .inl TB.gC⟩ (fun a oe cls d pn hz hf => pss_one (ps_ret (by exact pe_tup (pa_cons pe_str (pa_cons (pe_xf EF.xf TB.noR hz hf (pv 2)) (pa_cons (pe_xf EF.xf TB.noC hz hf (pv 2)) (pa_cons (pe_callB (call_isX hz hf) (by rfl) T.n_isinstance PyProof.Rows.boot_isinstance (pa_cons (pv 2) (pa_cons (pe_glob rfl EF.gF rfl) pa_nil))) pa_nil))))))) .nil))), ?_⟩
    walk_at "go"
    refine ⟨z, row, rfl, hz, fun hw l ys H1 nl fr1 hl im => ?_, fun p hw d H1 nd fr1 hd => ?_⟩
    · exact k _ _ fr1 (.inr ⟨hw, l, ys, rfl, hl, im⟩)
    · refine ⟨true, EF.e1, fun _ a na => ?_, fun z => nomatch z⟩
      show tRet _ _ _ _
      walk_at "go"
      refine x_xf ?_
      walk_at "go"
      refine x_xfR hd (look_row _ _) ?_
      walk_at "go"
      refine x_xf ?_
      walk_at "go"
      refine x_xfR hd (look_col _ _) ?_
      walk_at "go"
      refine x_isX EF.t1 (fun dd e => by cases e; exact ⟨_, hd⟩) ?_
      walk_at "go"
      refine x_newT (by rfl) (fun r H2 nr fr2 hr2 => ?_)
      exact k _ _ (fr1.trans fr2) (.inl ⟨p, hw, r, rfl, hr2⟩)
theorem ok_told (T : Txt K mg) (TB : PySem.BadX.BadTxt P K mg C fI cc cda) (TM : OwnErr K mg "TooMany" CM) (EF : ErrF K mg C CM CF) (g_fold_tokens : Got P w K mg base (L2.CX P w) "fold_tokens" 6 ["lines"] (spFold K C CM)) (F : Fun K "_law_told" "_law_told" s_law_told f fd) : FnOk P w K mg base CX0 7 f fd ["lines"] (spDue K) := by
  refine F.ok sc_law_told (fun vs H Q E h => ?_) (fun cdv A outer s H vs Q E hr h => ?_)
  · obtain ⟨a, xs, ls, rfl, _⟩ := h
    rfl
  · obtain ⟨a, xs, ls, rfl, L, k⟩ := h
    refine ⟨_, (pss_one (ps_try_manyAs (l := [(1, .ref C, tsBad1 C CF K), (1, .ref CM, tsMany CF K)]) (Wout := fun _ _ _ _ => False) (tb := fun W => tRet (tCallS (spFold K C CM) (WE W) (tCons (tVar 0) tNil))) rfl rfl sc_law_told.nd takes0
      (fun W pn xe tk _ => pss_one (ps_ret (by exact pe_gotS g_fold_tokens (hr.mono (by decide)) (fun σ => passAt tk σ) rfl (pa_cons (pv 0) pa_nil))))
      (.cons rfl rfl ⟨rfl, by decide, .inl TB.gC⟩ (fun a oe cls d pn hz hf => pss_one (ps_ret (by exact pe_tup (pa_cons pe_str (pa_cons (pe_xf EF.xf TB.noR hz hf (pv 1)) (pa_cons (pe_xf EF.xf TB.noC hz hf (pv 1)) (pa_cons (pe_callB (call_isX hz hf) (by rfl) T.n_isinstance PyProof.Rows.boot_isinstance (pa_cons (pv 1) (pa_cons (pe_glob rfl EF.gF rfl) pa_nil))) pa_nil)))))))
      (.cons rfl rfl ⟨rfl, by decide, .inl TM.g⟩ (fun a oe cls d pn hz hf => pss_one (ps_ret (by exact pe_tup (pa_cons pe_str (pa_cons (pe_callB (call_isX hz hf) (by rfl) T.n_isinstance PyProof.Rows.boot_isinstance (pa_cons (pv 1) (pa_cons (pe_glob rfl EF.gF rfl) pa_nil))) pa_nil))))) .nil)))), ?_⟩
    walk_at "go"
    refine ⟨a, xs, ls, rfl, L, fun its e l ys H1 nl fr1 hl im => ?_, fun r p e d H1 nd fr1 hd => ?_, fun e H1 fr1 => ?_⟩
    · rw [e] at k
      exact k _ _ fr1 ⟨l, ys, rfl, hl, im⟩
    · rw [e] at k
      refine ⟨true, EF.e1, fun _ a na => ?_, fun z => nomatch z⟩
      show tRet _ _ _ _
      walk_at "go"
      refine x_xf ?_
      walk_at "go"
      refine x_xfR hd (look_row _ _) ?_
      walk_at "go"
      refine x_xf ?_
      walk_at "go"
      refine x_xfR hd (look_col _ _) ?_
      walk_at "go"
      refine x_isX EF.t1 (fun dd e => by cases e; exact ⟨_, hd⟩) ?_
      walk_at "go"
      refine x_newT (by rfl) (fun r H2 nr fr2 hr2 => ?_)
      exact k _ _ (fr1.trans fr2) ⟨r, rfl, hr2⟩
    · rw [e] at k
      refine ⟨false, EF.e2, fun z => (nomatch z), fun _ => ⟨true, EF.e3, fun _ a na => ?_, fun z => nomatch z⟩⟩
      show tRet _ _ _ _
      walk_at "go"
      refine x_isX EF.t2 (fun dd e => nomatch e) ?_
      walk_at "go"
      refine x_newT (by rfl) (fun r H2 nr fr2 hr2 => ?_)
      exact k _ _ (fr1.trans fr2) ⟨r, rfl, hr2⟩
end
end My
namespace My
open PySem PySem.Spec L2
local macro_rules | `(tactic| walk_at "fact") => `(tactic| first | assumption | exact sqL (by assumption) | exact sqL upd_same | exact Fr.sql (by assumption) (by assumption))
local macro_rules | `(tactic| walk_at "hfact") => `(tactic| first | assumption | exact upd_same)
local macro_rules | `(tactic| walk_at "kit") => `(tactic| first
  | exact kb_bool_tuple | exact kb_bool_list | exact kb_bool_dict | exact kb_bool_bool | exact kb_bool_int | exact kb_bool_str | exact kb_int_tuple | exact kb_int_list | exact kb_int_dict | exact kb_int_bool | exact kb_int_int | exact kb_int_str
  | exact kb_str_tuple | exact kb_str_list | exact kb_str_dict | exact kb_str_bool | exact kb_str_int | exact kb_str_str | exact kb_none_tuple | exact kb_none_list | exact kb_none_dict | exact kb_none_bool | exact kb_none_int | exact kb_none_str
  | exact kb_tuple_tuple | exact kb_tuple_list | exact kb_tuple_dict | exact kb_tuple_bool | exact kb_tuple_int | exact kb_tuple_str | exact kb_list_tuple | exact kb_list_list | exact kb_list_dict | exact kb_list_bool | exact kb_list_int | exact kb_list_str
  | exact kb_dict_tuple | exact kb_dict_list | exact kb_dict_dict)
local macro_rules | `(tactic| walk_at "go1") => `(tactic| first
  | with_reducible refine x_var rfl ?_ | with_reducible refine x_c ?_ | with_reducible refine x_seq ?_ | with_reducible refine x_asg ?_ | with_reducible refine x_gname ?_ | with_reducible refine x_op ?_
  | with_reducible refine x_rI0 ?_ | with_reducible refine x_eqI ?_ | with_reducible refine x_eqS ?_ | with_reducible refine x_eqB ?_ | with_reducible refine x_neI ?_ | with_reducible refine x_neS ?_ | with_reducible refine x_test ?_ | with_reducible refine x_tB ?_ | with_reducible refine x_bl ?_
  | with_reducible refine x_if ?_ | with_reducible refine x_and ?_ | with_reducible refine x_or ?_ | with_reducible refine x_not ?_ | with_reducible refine x_andV ?_ | with_reducible refine x_orV ?_ | with_reducible refine x_notV ?_ | with_reducible refine x_ifE ?_ | with_reducible refine x_chain ?_
  | with_reducible refine x_cons ?_ | with_reducible refine x_nil ?_ | with_reducible refine x_cb ?_ | with_reducible refine x_got ?_ | with_reducible refine x_un ?_ | with_reducible refine x_rU ?_ | with_reducible refine x_int1 ?_
  | with_reducible refine x_ret ?_ | with_reducible refine x_retN ?_ | with_reducible refine x_next ?_ | with_reducible refine x_drop ?_ | with_reducible refine x_aug rfl ?_ | with_reducible refine x_ipI ?_ | with_reducible refine x_gsub ?_
  | with_reducible refine x_break ?_ | with_reducible refine x_cont ?_ | with_reducible refine x_slice ?_ | with_reducible refine x_noPart ?_ | with_reducible refine x_part ?_ | with_reducible refine x_int ?_ | with_reducible refine x_bm ?_ | with_reducible refine x_bm0 ?_
  | with_reducible refine x_tupQ ?_ | with_reducible refine x_lstQ ?_ | with_reducible refine x_inC ?_ | with_reducible refine x_notInC ?_ | with_reducible refine x_T ?_ | with_reducible refine x_F ?_ | with_reducible refine x_nT ?_ | with_reducible refine x_nF ?_
  | with_reducible refine x_for ?_ | with_reducible refine x_iR1 ?_ | with_reducible refine x_iL ?_ | with_reducible refine x_iT ?_ | with_reducible refine x_iE ?_ | with_reducible refine x_gcons ?_ | with_reducible refine x_gnil ?_ | with_reducible refine x_gtup (by walk_at "hfact") rfl ?_
  | with_reducible refine x_raiseBad ?_ | with_reducible refine x_raiseOwn ?_ | with_reducible refine x_isX (by assumption) (by assumption) ?_
  | with_reducible refine x_turn ?_ | with_reducible refine x_mulR (by decide) ?_ | with_reducible refine x_mulL (by decide) ?_ | with_reducible refine x_mod (by decide) ?_ | with_reducible refine x_div (by decide) ?_
  | with_reducible refine x_ixL (by walk_at "fact") rfl ?_ | with_reducible refine x_lenL (by walk_at "fact") ?_ | with_reducible refine x_lenS (by assumption) ?_ | with_reducible refine x_slS (by assumption) ?_ | with_reducible refine x_ixT (by walk_at "hfact") rfl ?_ | with_reducible refine x_ixT' (by walk_at "hfact") rfl ?_ | with_reducible refine x_tyL (by walk_at "hfact") ?_ | with_reducible refine x_setL (by walk_at "hfact") rfl ?_
  | with_reducible refine x_isi tx_bl (by walk_at "kit") ?_ | with_reducible refine x_isi tx_int (by walk_at "kit") ?_ | with_reducible refine x_isi tx_str (by walk_at "kit") ?_ | with_reducible refine x_isi tx_non (by walk_at "kit") ?_ | with_reducible refine x_isi (tx_tup (by walk_at "hfact")) (by walk_at "kit") ?_ | with_reducible refine x_isi (tx_lst (by walk_at "hfact")) (by walk_at "kit") ?_
  | with_reducible refine x_lc ?_ | with_reducible refine x_yes ?_ | with_reducible refine x_gotS ?_ | with_reducible refine x_lenT (by walk_at "hfact") ?_ | with_reducible refine x_tru ?_ | with_reducible refine x_trB ?_)
local macro_rules | `(tactic| walk_at "go") => `(tactic| repeat walk_at "go1")

theorem CutIs.fr {H H' : Hp} {v : V} {z : Str} {row : Int} (f : Fr [] H H') (h : CutIs H v z row) : CutIs H' v z row := by
  rcases h with ⟨p, hw, a, rfl, ha⟩ | ⟨hw, a, ys, rfl, ha, im⟩
  · exact .inl ⟨p, hw, a, rfl, f.tup ha⟩
  · exact .inr ⟨hw, a, ys, rfl, f.lst ha, im.fr f⟩
theorem tak {α : Type} {P : α → Prop} {l : List α} {x : α} (h : ∀ a ∈ l, P a) (hx : P x) : ∀ a ∈ l ++ [x], P a := fun a ha => by
  rcases List.mem_append.mp ha with ha | ha
  · exact h a ha
  · rw [List.mem_singleton.mp ha]
    exact hx
theorem Fr.push {M : List Addr} {H H1 H2 : Hp} {p : Addr} (a : Fr M H H1) (b : Fr [p] H1 H2) (h : H p = none) : Fr M H H2 := a.drop (b.mono fun x hx => by rw [List.mem_singleton.mp hx]; exact List.mem_cons_self) h
section
variable {P : Program} {w : World} {K : PySem.W.Frag} {mg : Str → Option Value} {base : Heap} {f : Addr} {fd : FuncData} {CX : CXT} {C CM CF fI cc cda : Addr}
def spLaw (K : PySem.W.Frag) : Sp := fun vs H Q _ => ∃ (a : Addr) (ns : List Int), vs = [.ref a] ∧ SqL K H a (ns.map V.int) ∧ ns.length ≤ 63 ∧ ∀ H', Q (.bl true) H'
theorem ok_law (T : Txt K mg) (g_law_tape : Got P w K mg base CX0 "_law_tape" 1 ["script", "budget"] (spTape K)) (g_law_take : Got P w K mg base CX0 "_law_take" 2 ["tape", "many"] spTake) (g_law_text : Got P w K mg base CX0 "_law_text" 3 ["tape", "bad"] spText)
    (g_law_wrong : Got P w K mg base CX0 "_law_wrong" 1 ["text"] spWrong) (g_law_tokens : Got P w K mg base CX0 "_law_tokens" 2 ["text", "row"] spToks) (g_law_cut : Got P w K mg base CX0 "_law_cut" 6 ["text", "row"] spCut) (g_law_like : Got P w K mg base CX0 "_law_like" 6 ["a", "b"] (spLike 6))
    (g_law_diagram : Got P w K mg base CX0 "_law_diagram" 3 ["bits", "i"] (spDia 3)) (g_law_told : Got P w K mg base CX0 "_law_told" 7 ["lines"] (spDue K)) (g_law_due : Got P w K mg base CX0 "_law_due" 3 ["lines"] (spDue K)) (g_law_at : Got P w K mg base CX0 "_law_at" 1 ["d", "row"] spHolds)
    (g_present : Got P w K mg base CX0 "present" 2 ["folded", "configuration"] (spPresent K)) (F : Fun K "law" "law" s_law f fd) : FnOk P w K mg base CX0 8 f fd ["script"] (spLaw K) := by
  refine F.ok sc_law (fun vs H Q E h => ?_) (fun cdv A outer s H vs Q E hr h => ?_)
  · obtain ⟨a, ns, rfl, _⟩ := h
    rfl
  · obtain ⟨a, ns, rfl, hS, _, k⟩ := h
    refine ⟨_, (pss_cons (ps_set (i := 1) sc_law.nd rfl (Or.inr rfl) (pe_got g_law_tape (hr.mono (by first | decide | omega)) rfl (pa_cons (pv 0) (pa_cons pe_int pa_nil))))
      (pss_cons (ps_if (PW.pt (pw_or (pt_cmpR op_ne (pe_gk rfl T.g_MARKS) pe_str (nomark _)) (pw_or1 (pt_cmpR op_ne (pe_gk rfl T.g_MAX_TOKENS) pe_int (nomark _))))) (pss_one (ps_ret pe_bl)) pss_nil)
      (pss_cons (ps_set (i := 2) sc_law.nd rfl (Or.inl rfl) (pe_got g_law_text (hr.mono (by first | decide | omega)) rfl (pa_cons (pv 1) (pa_cons (pe_cmpR op_eq (pe_got g_law_take (hr.mono (by first | decide | omega)) rfl (pa_cons (pv 1) (pa_cons pe_int pa_nil))) pe_int (nomark _)) pa_nil))))
      (pss_cons (ps_set (i := 3) sc_law.nd rfl (Or.inl rfl) (pe_got g_law_take (hr.mono (by first | decide | omega)) rfl (pa_cons (pv 1) (pa_cons pe_int pa_nil))))
      (pss_cons (ps_set (i := 4) sc_law.nd rfl (Or.inl rfl) (pe_got g_law_wrong (hr.mono (by first | decide | omega)) rfl (pa_cons (pv 2) pa_nil)))
      (Evl.pss_cut (ps_set (i := 5) sc_law.nd rfl (Or.inl rfl) (pe_ifExp (pt_cmpR op_ge (pv 4) pe_int (nomark _)) (pe_tup (pa_cons pe_str (pa_cons (pv 3) (pa_cons (pv 4) (pa_cons pe_bl pa_nil))))) (pe_got g_law_tokens (hr.mono (by first | decide | omega)) rfl (pa_cons (pv 2) (pa_cons (pv 3) pa_nil)))))
      (pss_cons (ps_if (pt_not (pt_val (pe_got g_law_like (hr.mono (by first | decide | omega)) rfl (pa_cons (pe_got g_law_cut (hr.mono (by first | decide | omega)) rfl (pa_cons (pv 2) (pa_cons (pv 3) pa_nil))) (pa_cons (pv 5) pa_nil))))) (pss_one (ps_ret pe_bl)) pss_nil)
      (pss_cons (ps_set (i := 6) sc_law.nd rfl (Or.inl rfl) (pe_lst pa_nil))
      (Evl.pss_cut (ps_for PassesOwn.never rfl (pi_range1 rfl T.n_range (pa_cons (pe_got g_law_take (hr.mono (by first | decide | omega)) rfl (pa_cons (pv 1) (pa_cons pe_int pa_nil))) pa_nil)) (pg_name (i := 7) sc_law.nd rfl (Or.inl rfl)) (pss_cons (ps_set (i := 8) sc_law.nd rfl (Or.inl rfl) (pe_got g_law_diagram (hr.mono (by first | decide | omega)) rfl (pa_cons (pe_lc (own := [("bit", 14)]) (g := gName 14) (tt := tYes) (te := (tOp (rEq) (tGot spTake E0 (tCons (tVar 1) (tCons (tC (.int 2)) tNil))) (tC (.int 0)))) rfl sc_law.nd (pi_range1 rfl T.n_range (pa_cons pe_int pa_nil)) (blkOk_by (own := [("bit", 14)]) (N := ["script", "tape", "text", "row", "at", "due", "lines", "k", "diagram", "told", "one", "two", "shown", "d", "bit"]) (sc := defScope s_law) (by decide +kernel)) (fun _ _ _ _ _ => (pg_name (i := 14) sc_law.nd rfl (Or.inl rfl))) (fun _ _ _ _ _ => pts_nil) (fun _ _ _ _ _ => (pe_cmpR op_eq (pe_got g_law_take (hr.mono (by first | decide | omega)) rfl (pa_cons (pv 1) (pa_cons pe_int pa_nil))) pe_int (nomark _)))) (pa_cons pe_int pa_nil))))
      (pss_one (ps_if (pt_cmpR y_notFalse (pv 8) pe_bl (nomark _)) (pss_one (ps_expr (pe_bm PySem.F.plainAttrs_list PySem.F.slot_list_append PySem.F.type_list_append mt_append (pv 6) (pa_cons (pe_tup (pa_cons (pe_got g_law_text (hr.mono (by first | decide | omega)) rfl (pa_cons (pv 1) (pa_cons (pe_cmpR op_eq (pe_got g_law_take (hr.mono (by first | decide | omega)) rfl (pa_cons (pv 1) (pa_cons pe_int pa_nil))) pe_int (nomark _)) pa_nil))) (pa_cons pe_str (pa_cons (pe_op op_add (pe_op op_mul pe_int (pv 7)) pe_int) (pa_cons (pv 8) pa_nil))))) pa_nil)))) pss_nil))))
      (pss_cons (ps_set (i := 9) sc_law.nd rfl (Or.inl rfl) (pe_got g_law_told (hr.mono (by first | decide | omega)) rfl (pa_cons (pe_callTy y_listOf (by rfl) T.n_list PyProof.Rows.boot_list (pa_cons (pv 6) pa_nil)) pa_nil)))
      (pss_cons (ps_if (pt_not (pt_val (pe_got g_law_like (hr.mono (by first | decide | omega)) rfl (pa_cons (pv 9) (pa_cons (pe_got g_law_due (hr.mono (by first | decide | omega)) rfl (pa_cons (pv 6) pa_nil)) pa_nil))))) (pss_one (ps_ret pe_bl)) pss_nil)
      (pss_cons (ps_if (pt_not (pt_val (pe_callB call_isi (by rfl) T.n_isinstance PyProof.Rows.boot_isinstance (pa_cons (pv 9) (pa_cons (pe_bltn (v := .ty "list") rfl T.n_list PyProof.Rows.boot_list rfl) pa_nil))))) (pss_one (ps_ret pe_bl)) pss_nil)
      (pss_cons (ps_for PassesOwn.never rfl (pi_tup (pe_tup (pa_cons pe_int (pa_cons pe_int pa_nil)))) (pg_name (i := 10) sc_law.nd rfl (Or.inl rfl)) (pss_one (ps_for PassesOwn.never rfl (pi_tup (pe_tup (pa_cons pe_int (pa_cons pe_int pa_nil)))) (pg_name (i := 11) sc_law.nd rfl (Or.inl rfl)) (pss_cons (ps_set (i := 12) sc_law.nd rfl (Or.inl rfl) (pe_lst pa_nil))
      (pss_cons (ps_for PassesOwn.never rfl (pi_range1 rfl T.n_range (pa_cons (pe_callB y_lenL (by rfl) T.n_len PySem.boot_len (pa_cons (pv 9) pa_nil)) pa_nil)) (pg_name (i := 7) sc_law.nd rfl (Or.inl rfl)) (pss_cons (ps_set (i := 13) sc_law.nd rfl (Or.inl rfl) (pe_got g_law_at (hr.mono (by first | decide | omega)) rfl (pa_cons (pe_ix ix_seq (pe_ix ix_list (pv 9) (pv 7) (fun _ _ => rfl)) pe_int (fun _ _ => rfl)) (pa_cons (pe_tup (pa_cons (pv 10) (pa_cons (pv 11) pa_nil))) pa_nil))))
      (pss_one (ps_if (pt_tru (pv 13) (by intro _; rfl)) (pss_one (ps_expr (pe_bm PySem.F.plainAttrs_list PySem.F.slot_list_append PySem.F.type_list_append mt_append (pv 12) (pa_cons (pv 7) pa_nil)))) pss_nil))))
      (pss_one (ps_if (pt_not (pt_val (pe_got g_law_like (hr.mono (by first | decide | omega)) rfl (pa_cons (pe_got g_present (hr.mono (by first | decide | omega)) rfl (pa_cons (pv 9) (pa_cons (pe_tup (pa_cons (pv 10) (pa_cons (pv 11) pa_nil))) pa_nil))) (pa_cons (pv 12) pa_nil))))) (pss_one (ps_ret pe_bl)) pss_nil)))))))
      (pss_one (ps_ret pe_bl))))))))))))))), ?_⟩
    walk_at "go"
    refine ⟨a, ns, 0, rfl, hS, fun t c H1 nt fr1 tp1 => ?_⟩
    walk_at "go"
    refine x_ndecF rfl ?_
    walk_at "go"
    refine x_ndecF rfl ?_
    walk_at "go"
    refine ⟨t, c, 3, rfl, tp1, by decide, by decide, fun d2 H2 _ _ fr2 tp2 => ?_⟩
    walk_at "go"
    refine ⟨t, c, _, rfl, tp2, fun z H3 zl fr3 tp3 => ?_⟩
    walk_at "go"
    refine ⟨t, c, 40, rfl, tp3, by decide, by decide, fun row H4 _ _ fr4 tp4 => ?_⟩
    walk_at "go"
    refine ⟨z, rfl, by omega, ?_⟩
    walk_at "go"
    refine x_cut (fun σ' H' => ∃ v, σ' = [some (.ref a), some (.ref t), some (.str z), some (.int row), some (.int (wrongI z)), some v, none, none, none, none, none, none, none, none, none] ∧ Tape H' t c ∧ CutIs H' v z row) ?_ ?_
    · walk_at "go"
      cases hw : wrong z with
      | some q =>
        have e : wrongI z = (q : Int) := by unfold wrongI; rw [hw]
        rw [e]
        refine x_decT (by omega) ?_
        walk_at "go"
        refine x_newT (by rfl) (fun r H5 nr fr5 hr5 => ?_)
        walk_at "go"
        exact ⟨_, rfl, tp4.fr fr5, .inl ⟨q, hw, r, rfl, hr5⟩⟩
      | none =>
        have e : wrongI z = -1 := by unfold wrongI; rw [hw]
        rw [e]
        refine x_decF (by decide) ?_
        walk_at "go"
        refine ⟨z, row, rfl, by omega, fun l ys H5 nl fr5 hl im => ?_⟩
        walk_at "go"
        exact ⟨_, rfl, tp4.fr fr5, .inr ⟨hw, l, ys, rfl, hl, im⟩⟩
    · rintro σ' H5 ⟨v, rfl, tp5, cv⟩
      walk_at "go"
      refine ⟨z, row, rfl, by omega, fun v2 H6 fr6 cv2 => ?_⟩
      walk_at "go"
      refine ⟨v2, v, cutD z row, rfl, cv2.rp (by omega), (cv.fr fr6).rp (by omega), fun H7 fr7 => ?_⟩
      walk_at "go"
      have tp7 := (tp5.fr fr6).fr fr7
      refine x_newL (by rfl) (fun l H8 nl fr8 hl => ?_)
      have tp8 := tp7.fr fr8
      have lt := (tp7.t nl).1
      have lc := (tp7.t nl).2
      have ltm : l ∉ [t] := by simpa using lt
      walk_at "go"
      refine x_cut (fun σ' H' => ∃ (xs : List V) (ls : List Ln) (y7 y8 : Option V), σ' = [some (.ref a), some (.ref t), some (.str z), some (.int row), some (.int (wrongI z)), some v, some (.ref l), y7, y8, none, none, none, none, none, none] ∧ H' l = some (.lst xs) ∧ ImAll H' xs (ls.map Ln.d) ∧ (∀ x ∈ ls, x.ok) ∧ ls.length ≤ 100) ?_ ?_
      · walk_at "go"
        refine ⟨t, c, 8, rfl, tp8, by decide, by decide, fun d H9 d0 d1 fr9 tp9 => ?_⟩
        walk_at "go"
        refine x_rngI d0 (by omega) ?_
        refine x_loopN (n := d.toNat) (fun i σ' H' => ∃ (xs : List V) (ls : List Ln) (y7 y8 : Option V), σ' = [some (.ref a), some (.ref t), some (.str z), some (.int row), some (.int (wrongI z)), some v, some (.ref l), y7, y8, none, none, none, none, none, none] ∧ H' l = some (.lst xs) ∧ ImAll H' xs (ls.map Ln.d) ∧ (∀ x ∈ ls, x.ok) ∧ ls.length ≤ i ∧ Tape H' t c)
          ⟨[], [], none, none, rfl, fr9.lst hl ltm, .nil, (fun x hx => nomatch hx), Nat.le_refl _, tp9⟩ ?_ ?_
        · rintro i σ' H10 hi ⟨xs, ls, y7, y8, rfl, hl10, im, ok, ll, tp10⟩
          have lxs : xs.length = ls.length := by rw [im.length, List.length_map]
          walk_at "go"
          refine x_rng (n := 4) (by decide) ?_
          refine x_lcN (fun D j ys H' => ∃ bs : List Bool, ys = bs.map V.bl ∧ bs.length = j ∧ Fr [t] H10 H' ∧ Tape H' t c) (fun _ => rfl) (fun D H' hD fr _ => ⟨[], rfl, rfl, fr.nil, tp10.fr fr⟩) ?_ ?_
          · rintro D j ys H11 hD hj hlD le ⟨bs, rfl, bl, fr, tp⟩
            have Dt := tp10.t hD
            walk_at "go"
            refine ⟨t, c, 2, rfl, tp, by decide, by decide, fun e H12 _ _ fr12 tp12 => ?_⟩
            walk_at "go"
            refine x_put (fr12.lst hlD (by simpa using Dt.1)) le (by omega) (fun H13 fr13 h13 => ⟨bs ++ [decide (e = 0)], by rw [List.map_append]; rfl, by rw [List.length_append, bl]; rfl, (fr.trans fr12).push fr13 hD, tp12.fr fr13 (by simpa using Dt.1.symm) (by simpa using Dt.2.symm)⟩)
          · rintro D ys H11 hD ⟨bs, rfl, bl, fr11, tp11⟩ hlD le
            walk_at "go"
            refine ⟨D, bs, 0, rfl, hlD, by rw [bl], by decide, fun v3 G H12 fr12 im12 ok12 dp12 => ?_⟩
            have tp12 := tp11.fr fr12
            have hl12 : H12 l = some (.lst xs) := fr12.lst (fr11.lst hl10 ltm)
            have imx := (im.fr fr11).fr fr12
            walk_at "go"
            refine x_notFalseD im12 ?_ ?_
            · walk_at "go"
              refine ⟨t, c, 30, rfl, tp12, by decide, by decide, fun e H13 _ _ fr13 tp13 => ?_⟩
              walk_at "go"
              refine ⟨t, c, _, rfl, tp13, fun z2 H14 zl2 fr14 tp14 => ?_⟩
              walk_at "go"
              refine x_newT (by rfl) (fun p H15 np fr15 hp => ?_)
              walk_at "go"
              have fr1315 := (fr13.trans fr14).trans fr15.nil
              refine x_app (fr1315.lst hl12 ltm) (by omega) (fun H16 fr16 hl16 => ?_)
              walk_at "go"
              refine ⟨_, ls ++ [⟨z2, 3 * (i : Int) + 2, G⟩], _, _, rfl, hl16, ?_, tak ok ⟨zl2, ok12, dp12⟩, by rw [List.length_append]; exact Nat.succ_le_succ ll, (tp14.fr fr15).fr fr16 (by simpa using lt.symm) (by simpa using lc.symm)⟩
              rw [List.map_append]
              exact ((imx.fr fr1315).snoc (.tup hp (.cons (.str _) (.cons (.str _) (.cons (.int _) (.cons (im12.fr fr1315) .nil)))))).fr fr16
            · walk_at "go"
              exact ⟨xs, ls, _, _, rfl, hl12, imx, ok, by omega, tp12⟩
        · rintro σ' H10 ⟨xs, ls, y7, y8, rfl, hl10, im, ok, ll, tp10⟩
          exact ⟨xs, ls, y7, y8, rfl, hl10, im, ok, by omega⟩
      · rintro σ' H9 ⟨xs, ls, y7, y8, rfl, hl, im, ok, ll⟩
        walk_at "go"
        refine x_listOf (sqL hl) (fun b H10 nb fr10 hb => ?_)
        walk_at "go"
        refine ⟨b, xs, ls, rfl, ⟨sqL hb, im.fr fr10, ok, ll⟩, fun v3 H11 fr11 r3 => ?_⟩
        walk_at "go"
        refine ⟨l, xs, ls, rfl, ⟨sqL ((fr10.trans fr11).lst hl), (im.fr fr10).fr fr11, ok, ll⟩, fun v4 H12 fr12 r4 => ?_⟩
        walk_at "go"
        refine ⟨v3, v4, (foldR 0 ls []).d, rfl, (ResIs.rp ok r3).fr fr12, ResIs.rp ok r4, fun H13 fr13 => ?_⟩
        walk_at "go"
        have fr123 := fr12.trans fr13
        cases e : foldR 0 ls [] with
        | bad r p =>
          rw [e] at r3
          obtain ⟨b2, rfl, hb2⟩ := r3
          have hb3 := fr123.tup hb2
          walk_at "go"
          exact k _
        | many =>
          rw [e] at r3
          obtain ⟨b2, rfl, hb2⟩ := r3
          have hb3 := fr123.tup hb2
          walk_at "go"
          exact k _
        | ok its =>
          rw [e] at r3
          obtain ⟨b2, ys, rfl, hb2, im2⟩ := r3
          have hb3 := fr123.lst hb2
          have im3 := im2.fr fr123
          have l24 := foldR_len (by decide) e
          have lys : ys.length = its.length := by rw [im2.length, List.length_map]
          have oks : ∀ t ∈ its, t.2.ok ∧ t.2.dep ≤ 2 := fun t ht => by
            rcases foldR_mem e t ht with h | ⟨ln, hln, e1, _⟩
            · cases h
            · rw [e1]
              exact (ok ln hln).2
          walk_at "go"
          refine x_newT (by rfl) (fun p H14 np fr14 hp => ?_)
          refine x_itT hp ?_
          refine x_loopT [.int 0, .int 1] (fun i σ' H' => ∃ (y7 y10 y11 y12 y13 : Option V), σ' = [some (.ref a), some (.ref t), some (.str z), some (.int row), some (.int (wrongI z)), some v, some (.ref l), y7, y8, some (.ref b2), y10, y11, y12, y13, none] ∧ Fr [] H13 H' ∧ H' p = some (.tup [.int 0, .int 1]))
            ⟨_, _, _, _, _, rfl, fr14, hp⟩ (fun i σ' H' hi ⟨_, _, _, _, _, _, _, h⟩ => h) ?_ ?_
          · rintro i x σ' H15 hx ⟨y7, y10, y11, y12, y13, rfl, fr15, hp15⟩
            obtain ⟨p1, rfl⟩ := two_at hx
            walk_at "go"
            refine x_newT (by rfl) (fun p2 H16 np2 fr16 hp2 => ?_)
            refine x_itT hp2 ?_
            refine x_loopT [.int 0, .int 1] (fun i σ' H' => ∃ (y7 y11 y12 y13 : Option V), σ' = [some (.ref a), some (.ref t), some (.str z), some (.int row), some (.int (wrongI z)), some v, some (.ref l), y7, y8, some (.ref b2), some (.int (bi p1)), y11, y12, y13, none] ∧ Fr [] H13 H' ∧ H' p = some (.tup [.int 0, .int 1]) ∧ H' p2 = some (.tup [.int 0, .int 1]))
              ⟨_, _, _, _, rfl, fr15.trans fr16, fr16.tup hp15, hp2⟩ (fun i σ' H' hi ⟨_, _, _, _, _, _, _, h⟩ => h) ?_ ?_
            · rintro j x2 σ' H17 hx2 ⟨y7, y11, y12, y13, rfl, fr17, hp17, hq17⟩
              obtain ⟨q1, rfl⟩ := two_at hx2
              walk_at "go"
              refine x_newL (by rfl) (fun s H18 ns fr18 hs => ?_)
              have hb18 := fr18.lst (fr17.lst hb3)
              walk_at "go"
              refine x_rng (n := ys.length) (by omega) ?_
              refine x_loopN (fun m σ' H' => ∃ (y7 y13 : Option V), σ' = [some (.ref a), some (.ref t), some (.str z), some (.int row), some (.int (wrongI z)), some v, some (.ref l), y7, y8, some (.ref b2), some (.int (bi p1)), some (.int (bi q1)), some (.ref s), y13, none] ∧ Fr [] H17 H' ∧ H' s = some (.lst (natV (hits its (cf p1 q1) m))))
                ⟨_, _, rfl, fr18, hs⟩ ?_ ?_
              · rintro m σ' H19 hm ⟨y7, y13, rfl, fr19, hs19⟩
                have hb19 : H19 b2 = some (.lst ys) := fr19.lst (fr17.lst hb3)
                obtain ⟨it, pp, u, v5, hit, hxx, hpp, iu, iv, mem⟩ := its_get (im3.fr (fr17.trans fr19)) (List.getElem?_eq_getElem hm)
                have hxm : ys[m]? = some (.ref pp) := by rw [List.getElem?_eq_getElem hm, hxx]
                have hll := hits_len (its := its) (c := cf p1 q1) (n := m)
                walk_at "go"
                refine x_ixL (sqL hb19) (atI_nat hxm) ?_
                walk_at "go"
                refine x_newT (by rfl) (fun g H20 ng fr20 hg => ?_)
                walk_at "go"
                refine ⟨v5, g, it.2, p1, q1, rfl, iv.fr fr20, (oks _ mem).1, (oks _ mem).2, hg, ?_⟩
                walk_at "go"
                refine ite2 (fun e1 => ?_) (fun e1 => ?_)
                · have hs20 := fr20.lst hs19
                  walk_at "go"
                  refine x_app hs20 (by unfold natV; rw [List.length_map]; omega) (fun H21 fr21 hs21 => ?_)
                  walk_at "go"
                  refine ⟨_, _, rfl, (fr19.trans fr20).push fr21 ns, ?_⟩
                  rw [hits_yes hit e1]
                  unfold natV at hs21 ⊢
                  rw [List.map_append]
                  exact hs21
                · walk_at "go"
                  refine ⟨_, _, rfl, fr19.trans fr20, ?_⟩
                  rw [hits_no hit (by simpa using e1)]
                  exact fr20.lst hs19
              · rintro σ' H19 ⟨y7, y13, rfl, fr19, hs19⟩
                walk_at "go"
                refine x_newT (by rfl) (fun g H20 ng fr20 hg => ?_)
                walk_at "go"
                have frb := (fr17.trans fr19).trans fr20
                refine ⟨b2, g, ys, its, p1, q1, rfl, sqL (frb.lst hb3), im3.fr frb, l24, oks, hg, fun l2 H21 nl2 fr21 hl2 => ?_⟩
                walk_at "go"
                have hs21 := fr21.lst (fr20.lst hs19)
                rw [lys] at hs21
                have hll := hits_len (its := its) (c := cf p1 q1) (n := its.length)
                refine ⟨_, _, _, rfl, natV_rp hl2 (by omega), natV_rp hs21 (by omega), fun H22 fr22 => ?_⟩
                walk_at "go"
                have fr1922 := ((fr19.trans fr20).trans fr21).trans fr22
                exact ⟨_, _, _, _, rfl, fr17.trans fr1922, fr1922.tup hp17, fr1922.tup hq17⟩
            · rintro σ' H17 ⟨y7, y11, y12, y13, rfl, fr17, hp17, hq17⟩
              exact ⟨_, _, _, _, _, rfl, fr17, hp17⟩
          · rintro σ' H15 ⟨y7, y10, y11, y12, y13, rfl, fr15, hp15⟩
            walk_at "go"
            exact k _
end
end My
namespace My
open PySem PySem.Spec L2 PySem.Calls
theorem gk_str (s : Str) {K : PySem.W.Frag} {h : Heap} {mg : Str → Option Value} {x : Str} {t : Tok} (X : K.In h) (G : h.Ns mainGlobals mg) (e : PySem.W.nsIn K mainGlobals x = some (some (.str s t))) : ∃ u, mg x = some u ∧ RelV (.str s) u := ⟨_, PySem.W.mg_of X G e, ⟨t, rfl⟩⟩
theorem gk_int (i : Int) {K : PySem.W.Frag} {h : Heap} {mg : Str → Option Value} {x : Str} {t : Tok} (X : K.In h) (G : h.Ns mainGlobals mg) (e : PySem.W.nsIn K mainGlobals x = some (some (.int i t))) : ∃ u, mg x = some u ∧ RelV (.int i) u := ⟨_, PySem.W.mg_of X G e, ⟨t, rfl⟩⟩
theorem all_mk {w : World} {K : PySem.W.Frag} {h : Heap} {mg : Str → Option Value} {fa : Addr} (X : K.In h) (G : h.Ns mainGlobals mg) (hfa : mg "law" = some (.ref fa))
    {f_holds : Addr} {od_holds an_holds : Option Addr} {sl_holds : Array (Option Value)} {oc_holds kV_holds dc_holds pm_holds cd_holds ct_holds : Value} (a_holds : PySem.W.nsIn K mainGlobals "holds" = some (some (.ref f_holds))) (l_holds : K.lookup f_holds = some ⟨oc_holds, od_holds, .func (PySem.W.fnOf "holds" "holds" (defArgs s_holds) (defBody s_holds) (defScope s_holds) .none kV_holds dc_holds pm_holds an_holds cd_holds ct_holds), sl_holds⟩) (c_holds : PySem.W.codeIn K cd_holds "holds" = true) (k_holds : PySem.W.keepIn K (.ref f_holds) = true)
    {f_end_of : Addr} {od_end_of an_end_of : Option Addr} {sl_end_of : Array (Option Value)} {oc_end_of kV_end_of dc_end_of pm_end_of cd_end_of ct_end_of : Value} (a_end_of : PySem.W.nsIn K mainGlobals "end_of" = some (some (.ref f_end_of))) (l_end_of : K.lookup f_end_of = some ⟨oc_end_of, od_end_of, .func (PySem.W.fnOf "end_of" "end_of" (defArgs s_end_of) (defBody s_end_of) (defScope s_end_of) .none kV_end_of dc_end_of pm_end_of an_end_of cd_end_of ct_end_of), sl_end_of⟩) (c_end_of : PySem.W.codeIn K cd_end_of "end_of" = true) (k_end_of : PySem.W.keepIn K (.ref f_end_of) = true)
    {f_token_at : Addr} {od_token_at an_token_at : Option Addr} {sl_token_at : Array (Option Value)} {oc_token_at kV_token_at dc_token_at pm_token_at cd_token_at ct_token_at : Value} (a_token_at : PySem.W.nsIn K mainGlobals "token_at" = some (some (.ref f_token_at))) (l_token_at : K.lookup f_token_at = some ⟨oc_token_at, od_token_at, .func (PySem.W.fnOf "token_at" "token_at" (defArgs s_token_at) (defBody s_token_at) (defScope s_token_at) .none kV_token_at dc_token_at pm_token_at an_token_at cd_token_at ct_token_at), sl_token_at⟩) (c_token_at : PySem.W.codeIn K cd_token_at "token_at" = true) (k_token_at : PySem.W.keepIn K (.ref f_token_at) = true)
    {f_tokens_of : Addr} {od_tokens_of an_tokens_of : Option Addr} {sl_tokens_of : Array (Option Value)} {oc_tokens_of kV_tokens_of dc_tokens_of pm_tokens_of cd_tokens_of ct_tokens_of : Value} (a_tokens_of : PySem.W.nsIn K mainGlobals "tokens_of" = some (some (.ref f_tokens_of))) (l_tokens_of : K.lookup f_tokens_of = some ⟨oc_tokens_of, od_tokens_of, .func (PySem.W.fnOf "tokens_of" "tokens_of" (defArgs s_tokens_of) (defBody s_tokens_of) (defScope s_tokens_of) .none kV_tokens_of dc_tokens_of pm_tokens_of an_tokens_of cd_tokens_of ct_tokens_of), sl_tokens_of⟩) (c_tokens_of : PySem.W.codeIn K cd_tokens_of "tokens_of" = true) (k_tokens_of : PySem.W.keepIn K (.ref f_tokens_of) = true)
    {f_fold_tokens : Addr} {od_fold_tokens an_fold_tokens : Option Addr} {sl_fold_tokens : Array (Option Value)} {oc_fold_tokens kV_fold_tokens dc_fold_tokens pm_fold_tokens cd_fold_tokens ct_fold_tokens : Value} (a_fold_tokens : PySem.W.nsIn K mainGlobals "fold_tokens" = some (some (.ref f_fold_tokens))) (l_fold_tokens : K.lookup f_fold_tokens = some ⟨oc_fold_tokens, od_fold_tokens, .func (PySem.W.fnOf "fold_tokens" "fold_tokens" (defArgs s_fold_tokens) (defBody s_fold_tokens) (defScope s_fold_tokens) .none kV_fold_tokens dc_fold_tokens pm_fold_tokens an_fold_tokens cd_fold_tokens ct_fold_tokens), sl_fold_tokens⟩) (c_fold_tokens : PySem.W.codeIn K cd_fold_tokens "fold_tokens" = true) (k_fold_tokens : PySem.W.keepIn K (.ref f_fold_tokens) = true)
    {f_present : Addr} {od_present an_present : Option Addr} {sl_present : Array (Option Value)} {oc_present kV_present dc_present pm_present cd_present ct_present : Value} (a_present : PySem.W.nsIn K mainGlobals "present" = some (some (.ref f_present))) (l_present : K.lookup f_present = some ⟨oc_present, od_present, .func (PySem.W.fnOf "present" "present" (defArgs s_present) (defBody s_present) (defScope s_present) .none kV_present dc_present pm_present an_present cd_present ct_present), sl_present⟩) (c_present : PySem.W.codeIn K cd_present "present" = true) (k_present : PySem.W.keepIn K (.ref f_present) = true)
    {f_law_like : Addr} {od_law_like an_law_like : Option Addr} {sl_law_like : Array (Option Value)} {oc_law_like kV_law_like dc_law_like pm_law_like cd_law_like ct_law_like : Value} (a_law_like : PySem.W.nsIn K mainGlobals "_law_like" = some (some (.ref f_law_like))) (l_law_like : K.lookup f_law_like = some ⟨oc_law_like, od_law_like, .func (PySem.W.fnOf "_law_like" "_law_like" (defArgs s_law_like) (defBody s_law_like) (defScope s_law_like) .none kV_law_like dc_law_like pm_law_like an_law_like cd_law_like ct_law_like), sl_law_like⟩) (c_law_like : PySem.W.codeIn K cd_law_like "_law_like" = true) (k_law_like : PySem.W.keepIn K (.ref f_law_like) = true)
    {f_law_mix : Addr} {od_law_mix an_law_mix : Option Addr} {sl_law_mix : Array (Option Value)} {oc_law_mix kV_law_mix dc_law_mix pm_law_mix cd_law_mix ct_law_mix : Value} (a_law_mix : PySem.W.nsIn K mainGlobals "_law_mix" = some (some (.ref f_law_mix))) (l_law_mix : K.lookup f_law_mix = some ⟨oc_law_mix, od_law_mix, .func (PySem.W.fnOf "_law_mix" "_law_mix" (defArgs s_law_mix) (defBody s_law_mix) (defScope s_law_mix) .none kV_law_mix dc_law_mix pm_law_mix an_law_mix cd_law_mix ct_law_mix), sl_law_mix⟩) (c_law_mix : PySem.W.codeIn K cd_law_mix "_law_mix" = true) (k_law_mix : PySem.W.keepIn K (.ref f_law_mix) = true)
    {f_law_tape : Addr} {od_law_tape an_law_tape : Option Addr} {sl_law_tape : Array (Option Value)} {oc_law_tape kV_law_tape dc_law_tape pm_law_tape cd_law_tape ct_law_tape : Value} (a_law_tape : PySem.W.nsIn K mainGlobals "_law_tape" = some (some (.ref f_law_tape))) (l_law_tape : K.lookup f_law_tape = some ⟨oc_law_tape, od_law_tape, .func (PySem.W.fnOf "_law_tape" "_law_tape" (defArgs s_law_tape) (defBody s_law_tape) (defScope s_law_tape) .none kV_law_tape dc_law_tape pm_law_tape an_law_tape cd_law_tape ct_law_tape), sl_law_tape⟩) (c_law_tape : PySem.W.codeIn K cd_law_tape "_law_tape" = true) (k_law_tape : PySem.W.keepIn K (.ref f_law_tape) = true)
    {f_law_take : Addr} {od_law_take an_law_take : Option Addr} {sl_law_take : Array (Option Value)} {oc_law_take kV_law_take dc_law_take pm_law_take cd_law_take ct_law_take : Value} (a_law_take : PySem.W.nsIn K mainGlobals "_law_take" = some (some (.ref f_law_take))) (l_law_take : K.lookup f_law_take = some ⟨oc_law_take, od_law_take, .func (PySem.W.fnOf "_law_take" "_law_take" (defArgs s_law_take) (defBody s_law_take) (defScope s_law_take) .none kV_law_take dc_law_take pm_law_take an_law_take cd_law_take ct_law_take), sl_law_take⟩) (c_law_take : PySem.W.codeIn K cd_law_take "_law_take" = true) (k_law_take : PySem.W.keepIn K (.ref f_law_take) = true)
    {f_law_diagram : Addr} {od_law_diagram an_law_diagram : Option Addr} {sl_law_diagram : Array (Option Value)} {oc_law_diagram kV_law_diagram dc_law_diagram pm_law_diagram cd_law_diagram ct_law_diagram : Value} (a_law_diagram : PySem.W.nsIn K mainGlobals "_law_diagram" = some (some (.ref f_law_diagram))) (l_law_diagram : K.lookup f_law_diagram = some ⟨oc_law_diagram, od_law_diagram, .func (PySem.W.fnOf "_law_diagram" "_law_diagram" (defArgs s_law_diagram) (defBody s_law_diagram) (defScope s_law_diagram) .none kV_law_diagram dc_law_diagram pm_law_diagram an_law_diagram cd_law_diagram ct_law_diagram), sl_law_diagram⟩) (c_law_diagram : PySem.W.codeIn K cd_law_diagram "_law_diagram" = true) (k_law_diagram : PySem.W.keepIn K (.ref f_law_diagram) = true)
    {f_law_run_of : Addr} {od_law_run_of an_law_run_of : Option Addr} {sl_law_run_of : Array (Option Value)} {oc_law_run_of kV_law_run_of dc_law_run_of pm_law_run_of cd_law_run_of ct_law_run_of : Value} (a_law_run_of : PySem.W.nsIn K mainGlobals "_law_run_of" = some (some (.ref f_law_run_of))) (l_law_run_of : K.lookup f_law_run_of = some ⟨oc_law_run_of, od_law_run_of, .func (PySem.W.fnOf "_law_run_of" "_law_run_of" (defArgs s_law_run_of) (defBody s_law_run_of) (defScope s_law_run_of) .none kV_law_run_of dc_law_run_of pm_law_run_of an_law_run_of cd_law_run_of ct_law_run_of), sl_law_run_of⟩) (c_law_run_of : PySem.W.codeIn K cd_law_run_of "_law_run_of" = true) (k_law_run_of : PySem.W.keepIn K (.ref f_law_run_of) = true)
    {f_law_tokens : Addr} {od_law_tokens an_law_tokens : Option Addr} {sl_law_tokens : Array (Option Value)} {oc_law_tokens kV_law_tokens dc_law_tokens pm_law_tokens cd_law_tokens ct_law_tokens : Value} (a_law_tokens : PySem.W.nsIn K mainGlobals "_law_tokens" = some (some (.ref f_law_tokens))) (l_law_tokens : K.lookup f_law_tokens = some ⟨oc_law_tokens, od_law_tokens, .func (PySem.W.fnOf "_law_tokens" "_law_tokens" (defArgs s_law_tokens) (defBody s_law_tokens) (defScope s_law_tokens) .none kV_law_tokens dc_law_tokens pm_law_tokens an_law_tokens cd_law_tokens ct_law_tokens), sl_law_tokens⟩) (c_law_tokens : PySem.W.codeIn K cd_law_tokens "_law_tokens" = true) (k_law_tokens : PySem.W.keepIn K (.ref f_law_tokens) = true)
    {f_law_text : Addr} {od_law_text an_law_text : Option Addr} {sl_law_text : Array (Option Value)} {oc_law_text kV_law_text dc_law_text pm_law_text cd_law_text ct_law_text : Value} (a_law_text : PySem.W.nsIn K mainGlobals "_law_text" = some (some (.ref f_law_text))) (l_law_text : K.lookup f_law_text = some ⟨oc_law_text, od_law_text, .func (PySem.W.fnOf "_law_text" "_law_text" (defArgs s_law_text) (defBody s_law_text) (defScope s_law_text) .none kV_law_text dc_law_text pm_law_text an_law_text cd_law_text ct_law_text), sl_law_text⟩) (c_law_text : PySem.W.codeIn K cd_law_text "_law_text" = true) (k_law_text : PySem.W.keepIn K (.ref f_law_text) = true)
    {f_law_wrong : Addr} {od_law_wrong an_law_wrong : Option Addr} {sl_law_wrong : Array (Option Value)} {oc_law_wrong kV_law_wrong dc_law_wrong pm_law_wrong cd_law_wrong ct_law_wrong : Value} (a_law_wrong : PySem.W.nsIn K mainGlobals "_law_wrong" = some (some (.ref f_law_wrong))) (l_law_wrong : K.lookup f_law_wrong = some ⟨oc_law_wrong, od_law_wrong, .func (PySem.W.fnOf "_law_wrong" "_law_wrong" (defArgs s_law_wrong) (defBody s_law_wrong) (defScope s_law_wrong) .none kV_law_wrong dc_law_wrong pm_law_wrong an_law_wrong cd_law_wrong ct_law_wrong), sl_law_wrong⟩) (c_law_wrong : PySem.W.codeIn K cd_law_wrong "_law_wrong" = true) (k_law_wrong : PySem.W.keepIn K (.ref f_law_wrong) = true)
    {f_law_cut : Addr} {od_law_cut an_law_cut : Option Addr} {sl_law_cut : Array (Option Value)} {oc_law_cut kV_law_cut dc_law_cut pm_law_cut cd_law_cut ct_law_cut : Value} (a_law_cut : PySem.W.nsIn K mainGlobals "_law_cut" = some (some (.ref f_law_cut))) (l_law_cut : K.lookup f_law_cut = some ⟨oc_law_cut, od_law_cut, .func (PySem.W.fnOf "_law_cut" "_law_cut" (defArgs s_law_cut) (defBody s_law_cut) (defScope s_law_cut) .none kV_law_cut dc_law_cut pm_law_cut an_law_cut cd_law_cut ct_law_cut), sl_law_cut⟩) (c_law_cut : PySem.W.codeIn K cd_law_cut "_law_cut" = true) (k_law_cut : PySem.W.keepIn K (.ref f_law_cut) = true)
    {f_law_told : Addr} {od_law_told an_law_told : Option Addr} {sl_law_told : Array (Option Value)} {oc_law_told kV_law_told dc_law_told pm_law_told cd_law_told ct_law_told : Value} (a_law_told : PySem.W.nsIn K mainGlobals "_law_told" = some (some (.ref f_law_told))) (l_law_told : K.lookup f_law_told = some ⟨oc_law_told, od_law_told, .func (PySem.W.fnOf "_law_told" "_law_told" (defArgs s_law_told) (defBody s_law_told) (defScope s_law_told) .none kV_law_told dc_law_told pm_law_told an_law_told cd_law_told ct_law_told), sl_law_told⟩) (c_law_told : PySem.W.codeIn K cd_law_told "_law_told" = true) (k_law_told : PySem.W.keepIn K (.ref f_law_told) = true)
    {f_law_due : Addr} {od_law_due an_law_due : Option Addr} {sl_law_due : Array (Option Value)} {oc_law_due kV_law_due dc_law_due pm_law_due cd_law_due ct_law_due : Value} (a_law_due : PySem.W.nsIn K mainGlobals "_law_due" = some (some (.ref f_law_due))) (l_law_due : K.lookup f_law_due = some ⟨oc_law_due, od_law_due, .func (PySem.W.fnOf "_law_due" "_law_due" (defArgs s_law_due) (defBody s_law_due) (defScope s_law_due) .none kV_law_due dc_law_due pm_law_due an_law_due cd_law_due ct_law_due), sl_law_due⟩) (c_law_due : PySem.W.codeIn K cd_law_due "_law_due" = true) (k_law_due : PySem.W.keepIn K (.ref f_law_due) = true)
    {f_law_at : Addr} {od_law_at an_law_at : Option Addr} {sl_law_at : Array (Option Value)} {oc_law_at kV_law_at dc_law_at pm_law_at cd_law_at ct_law_at : Value} (a_law_at : PySem.W.nsIn K mainGlobals "_law_at" = some (some (.ref f_law_at))) (l_law_at : K.lookup f_law_at = some ⟨oc_law_at, od_law_at, .func (PySem.W.fnOf "_law_at" "_law_at" (defArgs s_law_at) (defBody s_law_at) (defScope s_law_at) .none kV_law_at dc_law_at pm_law_at an_law_at cd_law_at ct_law_at), sl_law_at⟩) (c_law_at : PySem.W.codeIn K cd_law_at "_law_at" = true) (k_law_at : PySem.W.keepIn K (.ref f_law_at) = true)
    {f_law : Addr} {od_law an_law : Option Addr} {sl_law : Array (Option Value)} {oc_law kV_law dc_law pm_law cd_law ct_law : Value} (a_law : PySem.W.nsIn K mainGlobals "law" = some (some (.ref f_law))) (l_law : K.lookup f_law = some ⟨oc_law, od_law, .func (PySem.W.fnOf "law" "law" (defArgs s_law) (defBody s_law) (defScope s_law) .none kV_law dc_law pm_law an_law cd_law ct_law), sl_law⟩) (c_law : PySem.W.codeIn K cd_law "law" = true) (k_law : PySem.W.keepIn K (.ref f_law) = true)
    {C CM CF fI cc cda : Addr} (aC : PySem.W.nsIn K mainGlobals "BadToken" = some (some (.ref C))) (aM : PySem.W.nsIn K mainGlobals "TooMany" = some (some (.ref CM))) (aF : PySem.W.nsIn K mainGlobals "FoldError" = some (some (.ref CF)))
    {nm q : Str} {N : Addr} {bs bm : List Value} {sn : List Str} {sub : List Value} {ab : Bool} {col : Option Bool} {dd : Option Addr} {k0 k1 k2 k3 k5 : Option Value}
    (xC : K.lookup C = some (excClassObj nm q C N bs bm true sn sub ab col dd k0 k1 k2 k3 k5 "ValueError.__new__")) (xV : PySem.HandSPX.refsVE bm = true)
    (sa : PySem.W.findIn K (.ref C) "__setattr__" = some (some (.builtin "object.__setattr__"))) (nR : PySem.W.findIn K (.ref C) "row" = some none) (nC : PySem.W.findIn K (.ref C) "column" = some none)
    (iC : PySem.W.findIn K (.ref C) "__init__" = some (some (.ref fI))) (tI : PySem.W.typeIn K (.ref fI) = some (.type "function")) (kC : PySem.W.keepIn K (.ref C) = true) (eC : PySem.W.subIn K (.ref C) (.type "BaseException") = some true)
    (vC : PySem.W.subIn K (.ref C) (.type "ValueError") = some true) (tC : PySem.W.typeIn K (.ref C) = some (.type "type")) (rC : PySem.W.mroIn K C (.ref C) = some true) (uC : PySem.W.ks_superIn K C C "__init__" = some (some (.builtin "ValueError.__init__")))
    (z_any : PySem.W.nsIn K PySem.cStatics "thirdparty.any" = some none)
    {oc : Value} {od : Option Addr} {kV dc pm : Value} {an : Option Addr} {ct : Value} {osl : Array (Option Value)} (lI : K.lookup fI = some ⟨oc, od, .func (PySem.W.ksFn "__init__" "BadToken.__init__" (L2.defArgs PySem.BadX.sI) PySem.BadX.bodyI PySem.BadX.scopeI .none kV dc pm an (.ref cda) ct cc), osl⟩) (cI : PySem.W.codeIn K (.ref cda) "BadToken.__init__" = true)
    {cl : Value} {cld : Option Addr} {csl : Array (Option Value)} (lc : K.lookup cc = some ⟨cl, cld, .cell (some (.ref C)), csl⟩)
    {ccl : Value} {cdd : Option Addr} {vs : Array Value} {ccs : Array (Option Value)} {file : Str} {tf : Tok} (ld : K.lookup cda = some ⟨ccl, cdd, .fields vs, ccs⟩) (l2 : vs[2]? = some (.str file tf)) (l3 : (((PySem.Challenge.rw_oncefolded_k05_tokens).prog.main.file : Str) == file) = true)
    (gaC : PySem.W.findIn K (.ref C) "__getattribute__" = some (some (.builtin "BaseException.__getattribute__"))) (ggC : PySem.W.findIn K (.ref C) "__getattr__" = some none) (hdC : PySem.W.hasDictIn K C = true)
    (gaM : PySem.W.findIn K (.ref CM) "__getattribute__" = some (some (.builtin "BaseException.__getattribute__"))) (ggM : PySem.W.findIn K (.ref CM) "__getattr__" = some none) (hdM : PySem.W.hasDictIn K CM = true)
    (acC : PySem.W.findIn K (.ref C) "__class__" = some (some (.builtin "object.__class__"))) (acM : PySem.W.findIn K (.ref CM) "__class__" = some (some (.builtin "object.__class__")))
    (spn : PySem.W.specialIn K (.builtin "object.__class__") "__get__" = some (some (.builtin "getset_descriptor.__get__"))) (tkn : PySem.W.takesIn K (.builtin "object.__class__") = some true) (moC : PySem.W.mroIn K C (.type "object") = some true) (moM : PySem.W.mroIn K CM (.type "object") = some true)
    (xM : PySem.W.excIn K CM [.type "ValueError", .type "Exception", .type "BaseException", .type "object"] "ValueError.__new__" = true) (kM : PySem.W.keepIn K (.ref CM) = true) (bM : PySem.W.subIn K (.ref CM) (.type "BaseException") = some true) (tM : PySem.W.typeIn K (.ref CM) = some (.type "type"))
    (e1 : PySem.W.exmOne K (.ref C) (.ref C) = some true) (e2 : PySem.W.exmOne K (.ref CM) (.ref C) = some false) (e3 : PySem.W.exmOne K (.ref CM) (.ref CM) = some true) (o1 : PySem.W.kitOne K (.ref C) (.ref CF) = some true) (o2 : PySem.W.kitOne K (.ref CM) (.ref CF) = some true)
    (z_len : PySem.W.nsIn K mainGlobals "len" = some none) (z_int : PySem.W.nsIn K mainGlobals "int" = some none) (z_list : PySem.W.nsIn K mainGlobals "list" = some none) (z_range : PySem.W.nsIn K mainGlobals "range" = some none) (z_isinstance : PySem.W.nsIn K mainGlobals "isinstance" = some none) (z_tuple : PySem.W.nsIn K mainGlobals "tuple" = some none) (z_all : PySem.W.nsIn K mainGlobals "all" = some none) (z_dict : PySem.W.nsIn K mainGlobals "dict" = some none) (z_bool : PySem.W.nsIn K mainGlobals "bool" = some none) (z_str : PySem.W.nsIn K mainGlobals "str" = some none) (z_enumerate : PySem.W.nsIn K mainGlobals "enumerate" = some none) (z_super : PySem.W.nsIn K mainGlobals "super" = some none)
    {t1 t2 t3 t4 : Tok} (gL : PySem.W.nsIn K mainGlobals "LETTERS" = some (some (.str "abcdefghijklmnopqrstuvwxyzABCDEFGHIJKLMNOPQRSTUVWXYZ" t1))) (gD : PySem.W.nsIn K mainGlobals "DIGITS" = some (some (.str "0123456789" t2))) (gM : PySem.W.nsIn K mainGlobals "MARKS" = some (some (.str "+-*/(){};,=<>!:.?&|" t3))) (gT : PySem.W.nsIn K mainGlobals "MAX_TOKENS" = some (some (.int 24 t4))) :
    ∃ fd : FuncData, (∀ (s : Shared) (v : Value), BindsTo s fd ⟨[v], []⟩ [("script", v)]) ∧ ∀ base : Heap, K.In base → base.Ns mainGlobals mg → FnOk (PySem.Challenge.rw_oncefolded_k05_tokens).prog w K mg base CX0 8 fa fd ["script"] (spLaw K) := by
  have F_holds := fun_mk (st := s_holds) l_holds c_holds k_holds
  have m_holds := PySem.W.mg_of X G a_holds
  have b_holds := F_holds.binds (ps := ["d", "configuration"]) fun _ _ _ _ _ _ us hl => match us, hl with | [_, _], _ => rfl
  have F_end_of := fun_mk (st := s_end_of) l_end_of c_end_of k_end_of
  have m_end_of := PySem.W.mg_of X G a_end_of
  have b_end_of := F_end_of.binds (ps := ["text", "begin", "signs"]) fun _ _ _ _ _ _ us hl => match us, hl with | [_, _, _], _ => rfl
  have F_token_at := fun_mk (st := s_token_at) l_token_at c_token_at k_token_at
  have m_token_at := PySem.W.mg_of X G a_token_at
  have b_token_at := F_token_at.binds (ps := ["text", "row", "column", "glued"]) fun _ _ _ _ _ _ us hl => match us, hl with | [_, _, _, _], _ => rfl
  have F_tokens_of := fun_mk (st := s_tokens_of) l_tokens_of c_tokens_of k_tokens_of
  have m_tokens_of := PySem.W.mg_of X G a_tokens_of
  have b_tokens_of := F_tokens_of.binds (ps := ["text", "row"]) fun _ _ _ _ _ _ us hl => match us, hl with | [_, _], _ => rfl
  have F_fold_tokens := fun_mk (st := s_fold_tokens) l_fold_tokens c_fold_tokens k_fold_tokens
  have m_fold_tokens := PySem.W.mg_of X G a_fold_tokens
  have b_fold_tokens := F_fold_tokens.binds (ps := ["lines"]) fun _ _ _ _ _ _ us hl => match us, hl with | [_], _ => rfl
  have F_present := fun_mk (st := s_present) l_present c_present k_present
  have m_present := PySem.W.mg_of X G a_present
  have b_present := F_present.binds (ps := ["folded", "configuration"]) fun _ _ _ _ _ _ us hl => match us, hl with | [_, _], _ => rfl
  have F_law_like := fun_mk (st := s_law_like) l_law_like c_law_like k_law_like
  have m_law_like := PySem.W.mg_of X G a_law_like
  have b_law_like := F_law_like.binds (ps := ["a", "b"]) fun _ _ _ _ _ _ us hl => match us, hl with | [_, _], _ => rfl
  have F_law_mix := fun_mk (st := s_law_mix) l_law_mix c_law_mix k_law_mix
  have m_law_mix := PySem.W.mg_of X G a_law_mix
  have b_law_mix := F_law_mix.binds (ps := ["number"]) fun _ _ _ _ _ _ us hl => match us, hl with | [_], _ => rfl
  have F_law_tape := fun_mk (st := s_law_tape) l_law_tape c_law_tape k_law_tape
  have m_law_tape := PySem.W.mg_of X G a_law_tape
  have b_law_tape := F_law_tape.binds (ps := ["script", "budget"]) fun _ _ _ _ _ _ us hl => match us, hl with | [_, _], _ => rfl
  have F_law_take := fun_mk (st := s_law_take) l_law_take c_law_take k_law_take
  have m_law_take := PySem.W.mg_of X G a_law_take
  have b_law_take := F_law_take.binds (ps := ["tape", "many"]) fun _ _ _ _ _ _ us hl => match us, hl with | [_, _], _ => rfl
  have F_law_diagram := fun_mk (st := s_law_diagram) l_law_diagram c_law_diagram k_law_diagram
  have m_law_diagram := PySem.W.mg_of X G a_law_diagram
  have b_law_diagram := F_law_diagram.binds (ps := ["bits", "i"]) fun _ _ _ _ _ _ us hl => match us, hl with | [_, _], _ => rfl
  have F_law_run_of := fun_mk (st := s_law_run_of) l_law_run_of c_law_run_of k_law_run_of
  have m_law_run_of := PySem.W.mg_of X G a_law_run_of
  have b_law_run_of := F_law_run_of.binds (ps := ["text", "at", "signs"]) fun _ _ _ _ _ _ us hl => match us, hl with | [_, _, _], _ => rfl
  have F_law_tokens := fun_mk (st := s_law_tokens) l_law_tokens c_law_tokens k_law_tokens
  have m_law_tokens := PySem.W.mg_of X G a_law_tokens
  have b_law_tokens := F_law_tokens.binds (ps := ["text", "row"]) fun _ _ _ _ _ _ us hl => match us, hl with | [_, _], _ => rfl
  have F_law_text := fun_mk (st := s_law_text) l_law_text c_law_text k_law_text
  have m_law_text := PySem.W.mg_of X G a_law_text
  have b_law_text := F_law_text.binds (ps := ["tape", "bad"]) fun _ _ _ _ _ _ us hl => match us, hl with | [_, _], _ => rfl
  have F_law_wrong := fun_mk (st := s_law_wrong) l_law_wrong c_law_wrong k_law_wrong
  have m_law_wrong := PySem.W.mg_of X G a_law_wrong
  have b_law_wrong := F_law_wrong.binds (ps := ["text"]) fun _ _ _ _ _ _ us hl => match us, hl with | [_], _ => rfl
  have F_law_cut := fun_mk (st := s_law_cut) l_law_cut c_law_cut k_law_cut
  have m_law_cut := PySem.W.mg_of X G a_law_cut
  have b_law_cut := F_law_cut.binds (ps := ["text", "row"]) fun _ _ _ _ _ _ us hl => match us, hl with | [_, _], _ => rfl
  have F_law_told := fun_mk (st := s_law_told) l_law_told c_law_told k_law_told
  have m_law_told := PySem.W.mg_of X G a_law_told
  have b_law_told := F_law_told.binds (ps := ["lines"]) fun _ _ _ _ _ _ us hl => match us, hl with | [_], _ => rfl
  have F_law_due := fun_mk (st := s_law_due) l_law_due c_law_due k_law_due
  have m_law_due := PySem.W.mg_of X G a_law_due
  have b_law_due := F_law_due.binds (ps := ["lines"]) fun _ _ _ _ _ _ us hl => match us, hl with | [_], _ => rfl
  have F_law_at := fun_mk (st := s_law_at) l_law_at c_law_at k_law_at
  have m_law_at := PySem.W.mg_of X G a_law_at
  have b_law_at := F_law_at.binds (ps := ["d", "row"]) fun _ _ _ _ _ _ us hl => match us, hl with | [_, _], _ => rfl
  have F_law := fun_mk (st := s_law) l_law c_law k_law
  have m_law := PySem.W.mg_of X G a_law
  have b_law := F_law.binds (ps := ["script"]) fun _ _ _ _ _ _ us hl => match us, hl with | [_], _ => rfl
  have e := hfa.symm.trans m_law
  cases e
  have T : Txt K mg := ⟨PySem.W.mg_none_of X G z_len, PySem.W.mg_none_of X G z_int, PySem.W.mg_none_of X G z_list, PySem.W.mg_none_of X G z_range, PySem.W.mg_none_of X G z_isinstance, PySem.W.mg_none_of X G z_tuple, PySem.W.mg_none_of X G z_all, PySem.W.mg_none_of X G z_dict, PySem.W.mg_none_of X G z_bool, PySem.W.mg_none_of X G z_str, PySem.W.mg_none_of X G z_enumerate, gk_str _ X G gL, gk_str _ X G gD, gk_str _ X G gM, gk_int _ X G gT⟩
  have TB : PySem.BadX.BadTxt (PySem.Challenge.rw_oncefolded_k05_tokens).prog K mg C fI cc cda := ⟨PySem.W.mg_of X G aC, ⟨nm, q, N, bs, bm, sn, sub, ab, col, dd, k0, k1, k2, k3, k5, xC, xV⟩, sa, nR, nC, iC, tI, kC, eC, vC, tC, rC, uC, PySem.W.mg_none_of X G z_super, z_any,
    ⟨_, _, _, lc⟩, ⟨_, _, _, _, _, _, ld, l2, l3⟩, by decide +kernel, ⟨_, _, _, _, _, _, _, _, _, lI, cI, fun _ _ _ _ => .of_eq rfl⟩⟩
  have TM : OwnErr K mg "TooMany" CM := ⟨xM, PySem.W.mg_of X G aM, kM, bM, tM⟩
  have EF : ErrF K mg C CM CF := ⟨PySem.W.mg_of X G aF, ⟨gaC, ggC, eC, hdC⟩, e1, e2, e3, ⟨⟨gaC, ggC, eC, hdC, acC, spn, tkn, moC⟩, o1⟩, ⟨⟨gaM, ggM, bM, hdM, acM, spn, tkn, moM⟩, o2⟩⟩
  refine ⟨PySem.W.fnOf "law" "law" (defArgs s_law) (defBody s_law) (defScope s_law) .none kV_law dc_law pm_law an_law cd_law ct_law, fun s v => .of_eq rfl, fun base _ _ => ?_⟩
  have G_mix := Got.of (P := (PySem.Challenge.rw_oncefolded_k05_tokens).prog) (w := w) (base := base) F_law_mix m_law_mix b_law_mix (ok_mix T F_law_mix)
  have G_take := Got.of (P := (PySem.Challenge.rw_oncefolded_k05_tokens).prog) (w := w) (base := base) F_law_take m_law_take b_law_take (ok_take T G_mix F_law_take)
  have G_tape := Got.of (P := (PySem.Challenge.rw_oncefolded_k05_tokens).prog) (w := w) (base := base) F_law_tape m_law_tape b_law_tape (ok_tape T F_law_tape)
  have G_run := Got.of (P := (PySem.Challenge.rw_oncefolded_k05_tokens).prog) (w := w) (base := base) F_law_run_of m_law_run_of b_law_run_of (ok_run_of T F_law_run_of)
  have G_end := Got.of (P := (PySem.Challenge.rw_oncefolded_k05_tokens).prog) (w := w) (base := base) F_end_of m_end_of b_end_of (ok_end_of T F_end_of)
  have G_wrong := Got.of (P := (PySem.Challenge.rw_oncefolded_k05_tokens).prog) (w := w) (base := base) F_law_wrong m_law_wrong b_law_wrong (ok_wrong T F_law_wrong)
  have G_token_at := Got.of (P := (PySem.Challenge.rw_oncefolded_k05_tokens).prog) (w := w) (base := base) F_token_at m_token_at b_token_at (ok_token_at T TB G_end F_token_at)
  have G_tokens_of := Got.of (P := (PySem.Challenge.rw_oncefolded_k05_tokens).prog) (w := w) (base := base) F_tokens_of m_tokens_of b_tokens_of (ok_tokens_of T G_token_at F_tokens_of)
  have G_tokens := Got.of (P := (PySem.Challenge.rw_oncefolded_k05_tokens).prog) (w := w) (base := base) F_law_tokens m_law_tokens b_law_tokens (ok_law_tokens T G_run F_law_tokens)
  have G_holds := Got.of (P := (PySem.Challenge.rw_oncefolded_k05_tokens).prog) (w := w) (base := base) F_holds m_holds b_holds (ok_holds T F_holds)
  have G_at := Got.of (P := (PySem.Challenge.rw_oncefolded_k05_tokens).prog) (w := w) (base := base) F_law_at m_law_at b_law_at (ok_at T F_law_at)
  have G_dia := Got.of (P := (PySem.Challenge.rw_oncefolded_k05_tokens).prog) (w := w) (base := base) F_law_diagram m_law_diagram b_law_diagram (ok_diagram T F_law_diagram m_law_diagram b_law_diagram 3)
  have G_like := Got.of (P := (PySem.Challenge.rw_oncefolded_k05_tokens).prog) (w := w) (base := base) F_law_like m_law_like b_law_like (ok_like T F_law_like m_law_like b_law_like 6)
  have G_text := Got.of (P := (PySem.Challenge.rw_oncefolded_k05_tokens).prog) (w := w) (base := base) F_law_text m_law_text b_law_text (ok_text T G_take F_law_text)
  have G_fold := Got.of (P := (PySem.Challenge.rw_oncefolded_k05_tokens).prog) (w := w) (base := base) F_fold_tokens m_fold_tokens b_fold_tokens (ok_fold T TM G_tokens_of F_fold_tokens)
  have G_present := Got.of (P := (PySem.Challenge.rw_oncefolded_k05_tokens).prog) (w := w) (base := base) F_present m_present b_present (ok_present T G_holds F_present)
  have G_due := Got.of (P := (PySem.Challenge.rw_oncefolded_k05_tokens).prog) (w := w) (base := base) F_law_due m_law_due b_law_due (ok_due T G_wrong G_tokens F_law_due)
  have G_cut := Got.of (P := (PySem.Challenge.rw_oncefolded_k05_tokens).prog) (w := w) (base := base) F_law_cut m_law_cut b_law_cut (ok_cut T TB EF G_tokens_of F_law_cut)
  have G_told := Got.of (P := (PySem.Challenge.rw_oncefolded_k05_tokens).prog) (w := w) (base := base) F_law_told m_law_told b_law_told (ok_told T TB TM EF G_fold F_law_told)
  exact ok_law T G_tape G_take G_text G_wrong G_tokens G_cut G_like G_dia G_told G_due G_at G_present F_law
theorem walk {l : PySem.W.OpenLaw} {q : Program} {loose : List Str} {XP : (Str → Option Value) → Heap → Prop} {YP : World → Heap → Prop} {d : DefRec} {K : Params → PySem.W.Frag} (hn : l.most = some 63) (hdf : d.params.defaults = [])
    (hY : ∀ (w : World) (h : Heap), YP w h → (K w.params).In h)
    (F : ∀ (w : World) (mg : Str → Option Value) (fa : Addr) (h : Heap), (K w.params).In h → h.Ns mainGlobals mg → mg d.name = some (.ref fa) →
      ∃ fd : FuncData, (∀ (s : Shared) (u : Value), BindsTo s fd ⟨[u], []⟩ [("script", u)]) ∧ ∀ base : Heap, (K w.params).In base → base.Ns mainGlobals mg → FnOk l.prog w (K w.params) mg base CX0 8 fa fd ["script"] (spLaw (K w.params))) :
    PySem.W.WalkO q loose XP YP l.row.toRowW d [] (fun f vs => PySem.call f vs) :=
  L2.walk_of (n := 63) (k := 8) (x := "script") (CX := fun _ => CX0) (sp := fun w => spLaw (K w.params)) hn (by decide) hdf ⟨rfl, by decide, by decide⟩ hY F (fun _ _ a ns hl _ hS => ⟨a, ns, rfl, hS, hl, fun _ => rfl⟩) fun _ _ _ _ _ z => z
end My
open PySem PySem.W PyProof.Rows
set_option maxRecDepth 100000 in
set_option maxHeartbeats 0 in
theorem PySem.Challenge.cw_oncefolded_k05_tokens_holds : PySem.Challenge.rw_oncefolded_k05_tokens.Holds := by
  w_on; o_law; k_head; (case hw => w_witness2)
  k_fill
  refine My.walk (l := PySem.Challenge.rw_oncefolded_k05_tokens) rfl rfl (fun w h Y => PySem.W.kIn_of Y) ?F
  case F =>
    intro w mg fa h KX G hmg
    refine' My.all_mk KX G hmg ?a_holds ?l_holds ?c_holds ?k_holds ?a_end_of ?l_end_of ?c_end_of ?k_end_of ?a_token_at ?l_token_at ?c_token_at ?k_token_at ?a_tokens_of ?l_tokens_of ?c_tokens_of ?k_tokens_of ?a_fold_tokens ?l_fold_tokens ?c_fold_tokens ?k_fold_tokens ?a_present ?l_present ?c_present ?k_present ?a_law_like ?l_law_like ?c_law_like ?k_law_like ?a_law_mix ?l_law_mix ?c_law_mix ?k_law_mix ?a_law_tape ?l_law_tape ?c_law_tape ?k_law_tape ?a_law_take ?l_law_take ?c_law_take ?k_law_take ?a_law_diagram ?l_law_diagram ?c_law_diagram ?k_law_diagram ?a_law_run_of ?l_law_run_of ?c_law_run_of ?k_law_run_of ?a_law_tokens ?l_law_tokens ?c_law_tokens ?k_law_tokens ?a_law_text ?l_law_text ?c_law_text ?k_law_text ?a_law_wrong ?l_law_wrong ?c_law_wrong ?k_law_wrong ?a_law_cut ?l_law_cut ?c_law_cut ?k_law_cut ?a_law_told ?l_law_told ?c_law_told ?k_law_told ?a_law_due ?l_law_due ?c_law_due ?k_law_due ?a_law_at ?l_law_at ?c_law_at ?k_law_at ?a_law ?l_law ?c_law ?k_law ?aC ?aM ?aF ?xC ?xV ?sa ?nR ?nC ?iC ?tI ?kC ?eC ?vC ?tC ?rC ?uC ?z_any ?lI ?cI ?lc ?ld ?l2 ?l3 ?gaC ?ggC ?hdC ?gaM ?ggM ?hdM ?acC ?acM ?spn ?tkn ?moC ?moM ?xM ?kM ?bM ?tM ?e1 ?e2 ?e3 ?o1 ?o2 ?z_len ?z_int ?z_list ?z_range ?z_isinstance ?z_tuple ?z_all ?z_dict ?z_bool ?z_str ?z_enumerate ?z_super ?gL ?gD ?gM ?gT
    (case a_holds => k_is); (case l_holds => k_is); (case c_holds => k_is); (case k_holds => k_is)
    (case a_end_of => k_is); (case l_end_of => k_is); (case c_end_of => k_is); (case k_end_of => k_is)
    (case a_token_at => k_is); (case l_token_at => k_is); (case c_token_at => k_is); (case k_token_at => k_is)
    (case a_tokens_of => k_is); (case l_tokens_of => k_is); (case c_tokens_of => k_is); (case k_tokens_of => k_is)
    (case a_fold_tokens => k_is); (case l_fold_tokens => k_is); (case c_fold_tokens => k_is); (case k_fold_tokens => k_is)
    (case a_present => k_is); (case l_present => k_is); (case c_present => k_is); (case k_present => k_is)
    (case a_law_like => k_is); (case l_law_like => k_is); (case c_law_like => k_is); (case k_law_like => k_is)
    (case a_law_mix => k_is); (case l_law_mix => k_is); (case c_law_mix => k_is); (case k_law_mix => k_is)
    (case a_law_tape => k_is); (case l_law_tape => k_is); (case c_law_tape => k_is); (case k_law_tape => k_is)
    (case a_law_take => k_is); (case l_law_take => k_is); (case c_law_take => k_is); (case k_law_take => k_is)
    (case a_law_diagram => k_is); (case l_law_diagram => k_is); (case c_law_diagram => k_is); (case k_law_diagram => k_is)
    (case a_law_run_of => k_is); (case l_law_run_of => k_is); (case c_law_run_of => k_is); (case k_law_run_of => k_is)
    (case a_law_tokens => k_is); (case l_law_tokens => k_is); (case c_law_tokens => k_is); (case k_law_tokens => k_is)
    (case a_law_text => k_is); (case l_law_text => k_is); (case c_law_text => k_is); (case k_law_text => k_is)
    (case a_law_wrong => k_is); (case l_law_wrong => k_is); (case c_law_wrong => k_is); (case k_law_wrong => k_is)
    (case a_law_cut => k_is); (case l_law_cut => k_is); (case c_law_cut => k_is); (case k_law_cut => k_is)
    (case a_law_told => k_is); (case l_law_told => k_is); (case c_law_told => k_is); (case k_law_told => k_is)
    (case a_law_due => k_is); (case l_law_due => k_is); (case c_law_due => k_is); (case k_law_due => k_is)
    (case a_law_at => k_is); (case l_law_at => k_is); (case c_law_at => k_is); (case k_law_at => k_is)
    (case a_law => k_is); (case l_law => k_is); (case c_law => k_is); (case k_law => k_is)
    (case aC => k_is); (case aM => k_is); (case aF => k_is); (case xC => k_is); (case sa => k_is); (case nR => k_is); (case nC => k_is); (case iC => k_is); (case tI => k_is); (case kC => k_is); (case eC => k_is); (case vC => k_is); (case tC => k_is); (case rC => k_is); (case z_any => k_is); (case lI => k_is); (case cI => k_is); (case lc => k_is); (case ld => k_is); (case gaC => k_is); (case ggC => k_is); (case hdC => k_is); (case gaM => k_is); (case ggM => k_is); (case hdM => k_is); (case acC => k_is); (case acM => k_is); (case spn => k_is); (case tkn => k_is); (case moC => k_is); (case moM => k_is); (case kM => k_is); (case bM => k_is); (case tM => k_is)
    (case l2 => rfl)
    (case xV => kernel_rfl); (case uC => kernel_rfl); (case l3 => kernel_rfl); (case xM => kernel_rfl); (case e1 => kernel_rfl); (case e2 => kernel_rfl); (case e3 => kernel_rfl); (case o1 => kernel_rfl); (case o2 => kernel_rfl)
    (case z_len => k_is); (case z_int => k_is); (case z_list => k_is); (case z_range => k_is); (case z_isinstance => k_is); (case z_tuple => k_is); (case z_all => k_is); (case z_dict => k_is); (case z_bool => k_is); (case z_str => k_is); (case z_enumerate => k_is); (case z_super => k_is)
    (case gL => k_is); (case gD => k_is); (case gM => k_is); (case gT => k_is)
