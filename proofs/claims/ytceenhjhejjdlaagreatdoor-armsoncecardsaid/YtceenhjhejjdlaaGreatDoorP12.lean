/- The code of the functions, out of the regions. MADE BY PROGRAM (skel.lean.txt). -/
import Derived.Test.YtceenhjhejjdlaaGreatDoorP11
set_option linter.unusedSimpArgs false
set_option linter.unusedVariables false
section
namespace Go.Rs.Seat.Rg
open Go.Proofs
set_option maxRecDepth 100000

noncomputable def b8_0 : Code := (.seq r8_4 (.seq (.cond (.tmp 12) .skip (.exit 0)) (.seq (.block 1 r8_5) r8_6)))
noncomputable def c8 : Code := (.seq r8_0 (.seq r8_1 (.seq r8_2 (.seq (.seq r8_3 (.block 0 (.loop b8_0))) (.seq r8_7 .ret)))))
theorem body8 : Tryz.f8.body = some c8 := by kernel_rfl
noncomputable def b9_0 : Code := (.seq r9_5 (.seq (.cond (.tmp 36) .skip (.exit 0)) (.seq (.block 1 r9_6) r9_7)))
noncomputable def c9 : Code := (.seq r9_0 (.seq (.seq r9_1 (.cond (.tmp 12) (.seq r9_2 .ret) .skip)) (.seq r9_3 (.seq (.seq r9_4 (.block 0 (.loop b9_0))) (.seq r9_8 .ret)))))
theorem body9 : Tryz.f9.body = some c9 := by kernel_rfl
noncomputable def b10_0 : Code := (.seq r10_3 (.seq (.cond (.tmp 9) .skip (.exit 0)) (.seq (.block 1 (.seq r10_4 (.seq r10_5 (.cond (.tmp 19) r10_6 .skip)))) r10_7)))
noncomputable def c10 : Code := (.seq r10_0 (.seq r10_1 (.seq (.seq r10_2 (.block 0 (.loop b10_0))) (.seq r10_8 .ret))))
theorem body10 : Tryz.f10.body = some c10 := by kernel_rfl
noncomputable def b11_0 : Code := (.seq r11_3 (.seq (.cond (.tmp 9) .skip (.exit 0)) (.seq (.block 1 (.seq r11_4 r11_5)) r11_6)))
noncomputable def c11 : Code := (.seq r11_0 (.seq r11_1 (.seq (.seq r11_2 (.block 0 (.loop b11_0))) (.seq r11_7 .ret))))
theorem body11 : Tryz.f11.body = some c11 := by kernel_rfl
noncomputable def c12 : Code := (.seq r12_0 (.seq r12_1 .ret))
theorem body12 : Tryz.f12.body = some c12 := by kernel_rfl
noncomputable def c13 : Code := (.seq r13_0 (.seq r13_1 .ret))
theorem body13 : Tryz.f13.body = some c13 := by kernel_rfl
noncomputable def b14_0 : Code := (.seq r14_4 (.seq (.cond (.tmp 14) .skip (.exit 0)) (.seq (.block 1 (.seq r14_5 (.seq r14_6 (.cond (.tmp 24) (.seq r14_7 .ret) .skip)))) r14_8)))
noncomputable def c14 : Code := (.seq r14_0 (.seq (.seq r14_1 (.cond (.tmp 10) (.seq r14_2 .ret) .skip)) (.seq (.seq r14_3 (.block 0 (.loop b14_0))) (.seq r14_9 .ret))))
theorem body14 : Tryz.f14.body = some c14 := by kernel_rfl
noncomputable def b15_0 : Code := (.seq r15_2 (.seq (.cond (.tmp 11) .skip (.exit 0)) (.seq (.block 1 (.seq r15_3 (.seq (.seq r15_4 (.cond (.tmp 27) (.seq r15_5 .ret) .skip)) r15_6))) r15_7)))
noncomputable def c15 : Code := (.seq r15_0 (.seq (.seq r15_1 (.block 0 (.loop b15_0))) (.seq (.seq r15_8 (.cond (.tmp 37) (.seq r15_9 .ret) .skip)) (.seq r15_10 .ret))))
theorem body15 : Tryz.f15.body = some c15 := by kernel_rfl
noncomputable def b17_0 : Code := (.seq (.seq r17_2 (.cond (.tmp 10) .skip (.exit 0))) (.block 1 (.seq r17_3 (.seq (.seq r17_4 (.cond (.tmp 16) r17_5 .skip)) (.seq r17_6 (.seq (.seq r17_7 (.cond (.tmp 23) (.seq r17_8 .ret) .skip)) r17_9))))))
noncomputable def c17 : Code := (.seq r17_0 (.seq r17_1 (.seq (.block 0 (.loop b17_0)) (.seq r17_10 .ret))))
theorem body17 : Tryz.f17.body = some c17 := by kernel_rfl
noncomputable def b18_0 : Code := (.seq r18_2 (.seq (.cond (.tmp 13) .skip (.exit 0)) (.seq (.block 1 (.seq r18_3 (.seq r18_4 (.seq r18_5 (.cond (.tmp 23) (.seq r18_6 .ret) .skip))))) r18_7)))
noncomputable def c18 : Code := (.seq r18_0 (.seq (.seq r18_1 (.block 0 (.loop b18_0))) (.seq r18_8 .ret)))
theorem body18 : Tryz.f18.body = some c18 := by kernel_rfl
noncomputable def c25 : Code := (.seq r25_0 (.seq (.seq r25_1 (.cond (.tmp 10) (.seq r25_2 .ret) .skip)) (.seq r25_3 (.seq r25_4 .ret))))
theorem body25 : Tryz.f25.body = some c25 := by kernel_rfl
noncomputable def b26_1 : Code := (.seq r26_16 (.seq (.cond (.tmp 44) .skip (.exit 1)) (.seq (.block 2 r26_17) r26_18)))
noncomputable def c26 : Code := (.seq r26_0 (.seq (.seq r26_1 (.block 0 (.seq r26_2 (.cond (.tmp 9) (.seq r26_3 .ret) (.seq (.seq r26_4 (.cond (.tmp 12) .skip r26_5)) (.cond (.tmp 12) (.seq r26_6 .ret) (.seq r26_7 (.cond (.tmp 19) (.seq r26_8 .ret) (.seq r26_9 (.cond (.tmp 25) (.seq r26_10 .ret) .skip)))))))))) (.seq r26_11 (.seq r26_12 (.seq (.seq r26_13 (.cond (.tmp 40) r26_14 .skip)) (.seq (.seq r26_15 (.block 1 (.loop b26_1))) (.seq r26_19 .ret)))))))
theorem body26 : Tryz.f26.body = some c26 := by kernel_rfl
noncomputable def c27 : Code := (.seq r27_0 (.seq r27_1 .ret))
theorem body27 : Tryz.f27.body = some c27 := by kernel_rfl
noncomputable def b28_1 : Code := (.seq r28_12 (.seq (.cond (.tmp 57) .skip (.exit 1)) (.seq (.block 2 (.seq r28_13 r28_14)) r28_15)))
noncomputable def c28 : Code := (.seq r28_0 (.seq r28_1 (.seq r28_2 (.seq (.seq r28_3 (.block 0 (.seq (.seq r28_4 (.cond (.tmp 13) .skip r28_5)) (.cond (.tmp 13) r28_6 (.seq r28_7 (.cond (.tmp 26) r28_8 (.seq r28_9 (.cond (.tmp 38) (.seq r28_10 (.seq r28_11 (.block 1 (.loop b28_1)))) .skip)))))))) (.seq r28_16 .ret)))))
theorem body28 : Tryz.f28.body = some c28 := by kernel_rfl
noncomputable def b29_0 : Code := (.seq r29_8 (.seq (.cond (.tmp 33) .skip (.exit 0)) (.seq (.block 1 (.seq r29_9 (.seq (.seq r29_10 (.seq r29_11 (.cond (.tmp 41) (.seq r29_12 (.exit 1)) .skip))) (.seq r29_13 (.seq r29_14 (.cond (.tmp 67) r29_15 .skip)))))) r29_16)))
noncomputable def c29 : Code := (.seq r29_0 (.seq (.seq r29_1 (.cond (.tmp 11) (.seq r29_2 .ret) .skip)) (.seq (.seq r29_3 (.cond (.tmp 18) (.seq r29_4 .ret) .skip)) (.seq r29_5 (.seq r29_6 (.seq (.seq r29_7 (.block 0 (.loop b29_0))) (.seq r29_17 (.seq r29_18 .ret))))))))
theorem body29 : Tryz.f29.body = some c29 := by kernel_rfl
noncomputable def b30_0 : Code := (.seq r30_2 (.seq (.cond (.tmp 9) .skip (.exit 0)) (.seq (.block 1 (.seq r30_3 (.seq r30_4 (.cond (.tmp 16) (.seq r30_5 .ret) .skip)))) r30_6)))
noncomputable def c30 : Code := (.seq r30_0 (.seq (.seq r30_1 (.block 0 (.loop b30_0))) (.seq r30_7 .ret)))
theorem body30 : Tryz.f30.body = some c30 := by kernel_rfl
noncomputable def c32 : Code := (.seq r32_0 (.seq r32_1 (.seq (.seq r32_2 (.cond (.tmp 15) (.seq r32_3 .ret) .skip)) (.seq r32_4 .ret))))
theorem body32 : Tryz.f32.body = some c32 := by kernel_rfl
noncomputable def c47 : Code := (.seq r47_0 (.seq (.seq r47_1 (.cond (.tmp 4) (.seq r47_2 .ret) .skip)) (.seq r47_3 .ret)))
theorem body47 : Tryz.f47.body = some c47 := by kernel_rfl
noncomputable def c48 : Code := (.seq r48_0 (.seq r48_1 .ret))
theorem body48 : Tryz.f48.body = some c48 := by kernel_rfl
noncomputable def c49 : Code := (.seq r49_0 (.seq r49_1 .ret))
theorem body49 : Tryz.f49.body = some c49 := by kernel_rfl
noncomputable def b50_0 : Code := (.seq r50_3 (.seq (.cond (.tmp 12) .skip (.exit 0)) (.seq (.block 1 (.seq r50_4 (.seq r50_5 (.seq r50_6 (.cond (.tmp 20) r50_7 .skip))))) r50_8)))
noncomputable def b50_2 : Code := (.seq r50_11 (.seq (.cond (.tmp 28) .skip (.exit 2)) (.seq (.block 3 (.seq r50_12 r50_13)) r50_14)))
noncomputable def c50 : Code := (.seq r50_0 (.seq r50_1 (.seq (.seq r50_2 (.block 0 (.loop b50_0))) (.seq r50_9 (.seq (.seq r50_10 (.block 2 (.loop b50_2))) (.seq r50_15 .ret))))))
theorem body50 : Tryz.f50.body = some c50 := by kernel_rfl
noncomputable def c51 : Code := (.seq r51_0 (.seq r51_1 .ret))
theorem body51 : Tryz.f51.body = some c51 := by kernel_rfl
noncomputable def b52_1 : Code := (.seq r52_10 (.seq (.cond (.tmp 47) .skip (.exit 1)) (.seq (.block 2 (.seq r52_11 (.seq r52_12 (.seq r52_13 (.seq r52_14 (.cond (.tmp 63) (.seq r52_15 .ret) .skip)))))) r52_16)))
noncomputable def c52 : Code := (.seq r52_0 (.seq (.seq r52_1 (.block 0 (.seq r52_2 (.cond (.tmp 13) (.seq r52_3 .ret) (.seq r52_4 (.cond (.tmp 16) (.seq r52_5 .ret) (.seq r52_6 (.cond (.tmp 22) (.seq (.seq r52_7 (.cond (.tmp 42) (.seq r52_8 .ret) .skip)) (.seq (.seq r52_9 (.block 1 (.loop b52_1))) (.seq r52_17 .ret))) .skip)))))))) (.seq r52_18 .ret)))
theorem body52 : Tryz.f52.body = some c52 := by kernel_rfl
noncomputable def c53 : Code := (.seq r53_0 (.seq r53_1 .ret))
theorem body53 : Tryz.f53.body = some c53 := by kernel_rfl
noncomputable def c74 : Code := (.seq r74_0 (.seq (.seq r74_1 (.cond (.tmp 6) r74_2 .skip)) (.seq (.seq r74_3 (.seq r74_4 (.cond (.tmp 16) r74_5 .skip))) (.seq r74_6 .ret))))
theorem body74 : Tryz.f74.body = some c74 := by kernel_rfl
noncomputable def b75_0 : Code := (.seq r75_3 (.seq (.cond (.tmp 11) .skip (.exit 0)) (.seq (.block 1 (.seq r75_4 r75_5)) r75_6)))
noncomputable def c75 : Code := (.seq r75_0 (.seq r75_1 (.seq (.seq r75_2 (.block 0 (.loop b75_0))) (.seq r75_7 .ret))))
theorem body75 : Tryz.f75.body = some c75 := by kernel_rfl
noncomputable def c76 : Code := (.seq r76_0 (.seq r76_1 (.seq r76_2 .ret)))
theorem body76 : Tryz.f76.body = some c76 := by kernel_rfl
noncomputable def b3_0 : Code := (.seq (.seq r3_11 (.cond (.tmp 38) .skip (.exit 0))) (.seq (.block 1 (.seq (.seq r3_13 (.cond (.tmp 43) (.seq r3_14 .ret) .skip)) (.seq r3_15 (.seq r3_16 (.seq (.seq r3_17 (.cond (.tmp 54) r3_18 .skip)) (.seq (.seq r3_19 (.cond (.tmp 59) (.seq r3_20 .ret) .skip)) r3_21)))))) r3_12))
noncomputable def c3 : Code := (.seq r3_0 (.seq (.seq r3_1 (.cond (.tmp 12) (.seq r3_2 .ret) .skip)) (.seq (.seq r3_3 (.cond (.tmp 20) (.seq r3_4 .ret) .skip)) (.seq r3_5 (.seq (.seq r3_6 (.cond (.tmp 29) (.seq r3_7 .ret) .skip)) (.seq r3_8 (.seq r3_9 (.seq (.seq r3_10 (.block 0 (.loop b3_0))) (.seq r3_22 .ret)))))))))
theorem body3 : Tryz.f3.body = some c3 := by kernel_rfl
noncomputable def c4 : Code := (.seq r4_0 (.seq (.seq r4_1 (.cond (.tmp 14) (.seq r4_2 .ret) .skip)) (.seq (.seq r4_3 (.cond (.tmp 22) (.seq r4_4 .ret) .skip)) (.seq r4_5 (.seq (.seq r4_6 (.cond (.tmp 31) (.seq r4_7 .ret) .skip)) (.seq r4_8 (.seq r4_9 (.seq r4_10 (.seq r4_11 .ret)))))))))
theorem body4 : Tryz.f4.body = some c4 := by kernel_rfl
noncomputable def c5 : Code := (.seq r5_0 (.seq (.seq r5_1 (.cond (.tmp 14) (.seq r5_2 .ret) .skip)) (.seq (.seq r5_3 (.cond (.tmp 22) (.seq r5_4 .ret) .skip)) (.seq r5_5 (.seq (.seq r5_6 (.cond (.tmp 31) (.seq r5_7 .ret) .skip)) (.seq r5_8 (.seq r5_9 (.seq r5_10 (.seq r5_11 .ret)))))))))
theorem body5 : Tryz.f5.body = some c5 := by kernel_rfl
end Go.Rs.Seat.Rg
end
/- Entering and leaving a function. -/
section
namespace Go.Rs
open Seat
section
variable {sp : Bool → FuncId → Option (List AVal → Hp → Option (AVal × Hp))} {E : Env} {call : CallF} {md : Bool} {f : FuncId}

theorem call_done {fn : Func} {c : Code} {n : Nat} {k : Nat} {args : List AVal} {H : Hp} {ex : AExit} {st : St} {vs : List AVal} {rs : List ResultVar} (hsp : sp md f = none) (hf : Go.Proofs.Tryz.prog.funcs[f]? = some fn) (hb : fn.body = some c) (hrs : fn.results.toList = rs)
    (hla : args.length < maxTmp) (hn : max fn.ntmps args.length = n) (hfrz : (env sp).frz md f = false) (hfrzI : (env sp).frzIn f = false)
    (hev : evalCode (env sp) (evalCall (env sp) k) md f c (⟨params 0 args .nil, ⟨.nil, 0⟩, n⟩, H) = some (ex, st)) (hl : ex.leaves = true) (hres : results (env sp) st.1.tm st.1.lv st.2 rs = some vs) :
    evalCall (env sp) (k + 1) md f args H = some (packA vs, st.2) := by
  rw [evalCall]
  have h1 : (env sp).spec md f = none := hsp
  have h2 : (env sp).fn f = some fn := hf
  simp only [h1, h2, hb, if_pos hla, hn, hev, hl, if_true, hrs, hres, hfrz, hfrzI, Bool.false_eq_true, if_false]

def callRes (x : Option (AVal × Hp)) (lv : Lv) : Option (AVal × Lv × Hp) := match x with
  | some (.undef, _) => none
  | some (r, H) => some (r, lv, H)
  | none => none
theorem callRes_one {r : AVal} {H : Hp} {lv : Lv} (h : r.oneCell = true) : callRes (some (r, H)) lv = some (r, lv, H) := by cases r <;> first | rfl | cases h
theorem callRes_bool {b} {H : Hp} {lv : Lv} : callRes (some (.bool b, H)) lv = some (.bool b, lv, H) := rfl
theorem callRes_int {k n} {H : Hp} {lv : Lv} : callRes (some (.int k n, H)) lv = some (.int k n, lv, H) := rfl
theorem callRes_str {s} {H : Hp} {lv : Lv} : callRes (some (.str s, H)) lv = some (.str s, lv, H) := rfl
theorem callRes_list {a b c} {H : Hp} {lv : Lv} : callRes (some (.list a b c, H)) lv = some (.list a b c, lv, H) := rfl
theorem callRes_nil {H : Hp} {lv : Lv} : callRes (some (.nilslice, H)) lv = some (.nilslice, lv, H) := rfl
theorem callRes_agg {cs : List AVal} {H : Hp} {lv : Lv} : callRes (some (.agg cs, H)) lv = some (.agg cs, lv, H) := rfl
theorem callRes_tuple {cs : List AVal} {H : Hp} {lv : Lv} : callRes (some (.tuple cs, H)) lv = some (.tuple cs, lv, H) := rfl
theorem actA_eq {o : Oper} {ev : Operand → AVal} {lv : Lv} {H : Hp} : actA E call md f o ev lv H = if isCall o then
    match target E o ev with
    | none => none
    | some (g, args) => if args.all (·.handed) then callRes (call (md || E.up f) g args H) lv else none
  else match evalOp E md f o ev lv H with
    | some (r, lv, H) => if resOk o r then some (r, lv, H) else none
    | none => none := by
  unfold actA callRes
  rfl

theorem seq_norm {a b : Code} {st st1 : St} (h : evalCode E call md f a st = some (.normal, st1)) : evalCode E call md f (.seq a b) st = evalCode E call md f b st1 := by
  simp only [evalCode, h]
theorem seq_ret {a b : Code} {st st1 : St} (h : evalCode E call md f a st = some (.ret, st1)) : evalCode E call md f (.seq a b) st = some (.ret, st1) := by
  simp only [evalCode, h]
theorem seq_exit {a b : Code} {st st1 : St} {id : Nat} (h : evalCode E call md f a st = some (.exit id, st1)) : evalCode E call md f (.seq a b) st = some (.exit id, st1) := by
  simp only [evalCode, h]
theorem block_exit {b : Code} {st st1 : St} {id : Nat} (h : evalCode E call md f b st = some (.exit id, st1)) : evalCode E call md f (.block id b) st = some (.normal, st1) := by
  simp only [evalCode, h, if_true]
theorem block_norm {b : Code} {st st1 : St} {id : Nat} (h : evalCode E call md f b st = some (.normal, st1)) : evalCode E call md f (.block id b) st = some (.normal, st1) := by
  simp only [evalCode, h]
theorem block_ret {b : Code} {st st1 : St} {id : Nat} (h : evalCode E call md f b st = some (.ret, st1)) : evalCode E call md f (.block id b) st = some (.ret, st1) := by
  simp only [evalCode, h]
theorem loop_iter {b : Code} {st : St} : evalCode E call md f (.loop b) st = iterA (evalCode E call md f b) E.loops st := rfl
theorem cond_true {c : Operand} {a b : Code} {st : St} (h : evT E st.1.tm c = .bool true) : evalCode E call md f (.cond c a b) st = evalCode E call md f a st := by
  simp only [evalCode, h]
theorem cond_false {c : Operand} {a b : Code} {st : St} (h : evT E st.1.tm c = .bool false) : evalCode E call md f (.cond c a b) st = evalCode E call md f b st := by
  simp only [evalCode, h]
theorem iter_norm {body : St → Option (AExit × St)} {n : Nat} {st st1 : St} (h : body st = some (.normal, st1)) : iterA body (n + 1) st = iterA body n st1 := by
  simp only [iterA, h]
theorem iter_exit {body : St → Option (AExit × St)} {n : Nat} {st st1 : St} {id : Nat} (h : body st = some (.exit id, st1)) : iterA body (n + 1) st = some (.exit id, st1) := by
  simp only [iterA, h]
theorem iter_ret {body : St → Option (AExit × St)} {n : Nat} {st st1 : St} (h : body st = some (.ret, st1)) : iterA body (n + 1) st = some (.ret, st1) := by
  simp only [iterA, h]
end

/-! ## What a piece of code does -/
section
variable {sp : Bool → FuncId → Option (List AVal → Hp → Option (AVal × Hp))} {E : Env} {call : CallF} {md : Bool} {f : FuncId}

def Ev (E : Env) (call : CallF) (md : Bool) (f : FuncId) (c : Code) (st : St) (P : AExit → St → Prop) : Prop := ∃ r, evalCode E call md f c st = some r ∧ P r.1 r.2

theorem Ev.mono {c : Code} {st : St} {P Q : AExit → St → Prop} (h : Ev E call md f c st Q) (hp : ∀ ex s, Q ex s → P ex s) : Ev E call md f c st P := by
  obtain ⟨r, h1, h2⟩ := h
  exact ⟨r, h1, hp _ _ h2⟩

theorem Ev.seq {a b : Code} {st : St} {P Q : AExit → St → Prop} (h1 : Ev E call md f a st Q) (h2 : ∀ s, Q .normal s → Ev E call md f b s P) (h3 : ∀ ex s, ex ≠ .normal → Q ex s → P ex s) : Ev E call md f (.seq a b) st P := by
  obtain ⟨⟨ex, s⟩, h, hq⟩ := h1
  cases ex with
  | normal =>
    obtain ⟨r, h', hp⟩ := h2 s hq
    exact ⟨r, by simp only [evalCode, h, h'], hp⟩
  | exit id => exact ⟨(.exit id, s), by simp only [evalCode, h], h3 _ _ (by simp) hq⟩
  | ret => exact ⟨(.ret, s), by simp only [evalCode, h], h3 _ _ (by simp) hq⟩

theorem Ev.seqN {a b : Code} {st : St} {P : AExit → St → Prop} {Q : St → Prop} (h1 : Ev E call md f a st fun ex s => ex = .normal ∧ Q s) (h2 : ∀ s, Q s → Ev E call md f b s P) : Ev E call md f (.seq a b) st P :=
  h1.seq (fun s h => h2 s h.2) (fun ex s hn h => absurd h.1 hn)

theorem Ev.assoc {a b c : Code} {st : St} {P : AExit → St → Prop} (h : Ev E call md f (.seq a (.seq b c)) st P) : Ev E call md f (.seq (.seq a b) c) st P := by
  obtain ⟨r, h1, h2⟩ := h
  refine ⟨r, ?_, h2⟩
  rw [← h1]
  simp only [evalCode]
  cases evalCode E call md f a st with
  | none => rfl
  | some x =>
    obtain ⟨ex, s⟩ := x
    cases ex <;> rfl

theorem Ev.condT {c : Operand} {a b : Code} {st : St} {P : AExit → St → Prop} (hc : evT E st.1.tm c = .bool true) (h : Ev E call md f a st P) : Ev E call md f (.cond c a b) st P := by
  obtain ⟨r, h1, h2⟩ := h
  exact ⟨r, by rw [cond_true hc]; exact h1, h2⟩
theorem Ev.condF {c : Operand} {a b : Code} {st : St} {P : AExit → St → Prop} (hc : evT E st.1.tm c = .bool false) (h : Ev E call md f b st P) : Ev E call md f (.cond c a b) st P := by
  obtain ⟨r, h1, h2⟩ := h
  exact ⟨r, by rw [cond_false hc]; exact h1, h2⟩
theorem Ev.ret {st : St} {P : AExit → St → Prop} (h : P .ret st) : Ev E call md f .ret st P := ⟨(.ret, st), rfl, h⟩
theorem Ev.skip {st : St} {P : AExit → St → Prop} (h : P .normal st) : Ev E call md f .skip st P := ⟨(.normal, st), rfl, h⟩

def leaveB (id : Nat) : AExit → AExit
  | .exit id' => if id' = id then .normal else .exit id'
  | e => e

theorem Ev.block {b : Code} {st : St} {P : AExit → St → Prop} {id : Nat} (h : Ev E call md f b st fun ex s => P (leaveB id ex) s) : Ev E call md f (.block id b) st P := by
  obtain ⟨⟨ex, s⟩, h1, h2⟩ := h
  cases ex with
  | normal => exact ⟨(.normal, s), by simp only [evalCode, h1], h2⟩
  | exit id' =>
    simp only [leaveB] at h2
    by_cases hi : id' = id
    · rw [if_pos hi] at h2
      exact ⟨(.normal, s), by simp only [evalCode, h1, hi, if_true], h2⟩
    · rw [if_neg hi] at h2
      exact ⟨(.exit id', s), by simp only [evalCode, h1, hi, if_false], h2⟩
  | ret => exact ⟨(.ret, s), by simp only [evalCode, h1], h2⟩

theorem iter_inv {body : St → Option (AExit × St)} {Inv : Nat → St → Prop} {Fin : AExit → St → Prop} (n : Nat)
    (step : ∀ i st, Inv i st → i ≤ n → ∃ r, body st = some r ∧ ((r.1 = .normal ∧ i < n ∧ Inv (i + 1) r.2) ∨ (r.1 ≠ .normal ∧ Fin r.1 r.2))) :
    ∀ (m i : Nat) (st : St), Inv i st → i ≤ n → n - i < m → ∃ r, iterA body m st = some r ∧ Fin r.1 r.2
  | 0, i, st, _, _, hm => absurd hm (Nat.not_lt_zero _)
  | m + 1, i, st, hi, hin, hm => by
    obtain ⟨⟨ex, s⟩, h, h1⟩ := step i st hi hin
    cases ex with
    | normal =>
      rcases h1 with ⟨-, hlt, hinv⟩ | ⟨hne, -⟩
      · obtain ⟨r, h2, h3⟩ := iter_inv n step m (i + 1) s hinv hlt (by omega)
        exact ⟨r, by simp only [iterA, h, h2], h3⟩
      · exact absurd rfl hne
    | exit id =>
      rcases h1 with ⟨he, -⟩ | ⟨-, hf⟩
      · cases he
      · exact ⟨(.exit id, s), by simp only [iterA, h], hf⟩
    | ret =>
      rcases h1 with ⟨he, -⟩ | ⟨-, hf⟩
      · cases he
      · exact ⟨(.ret, s), by simp only [iterA, h], hf⟩
end

namespace Seat
/-- a loop of at most 9000 rounds -/
theorem loop_run {sp} {call : CallF} {md : Bool} {f : Nat} {b : Code} {st : St} {r : Option (AExit × St)} {m : Nat} (hm : m ≤ 9000) (h : ∀ k, iterA (evalCode (env sp) call md f b) (k + m) st = r) : evalCode (env sp) call md f (.loop b) st = r := by
  obtain ⟨k, hk⟩ := loops_ge sp m hm
  rw [loop_iter, hk]
  exact h k

theorem Ev.loop {sp} {call : CallF} {md : Bool} {f : Nat} {b : Code} {st : St} {Fin : AExit → St → Prop} {Inv : Nat → St → Prop} (n : Nat) (hn : n < 9000) (h0 : Inv 0 st)
    (step : ∀ i st, Inv i st → i ≤ n → Ev (env sp) call md f b st fun ex s => (ex = .normal ∧ i < n ∧ Inv (i + 1) s) ∨ (ex ≠ .normal ∧ Fin ex s)) : Ev (env sp) call md f (.loop b) st Fin := by
  obtain ⟨k, hk⟩ := loops_ge sp (n + 1) (by omega)
  unfold Ev
  rw [loop_iter, hk]
  exact iter_inv n step (k + (n + 1)) 0 st h0 (Nat.zero_le _) (by omega)

/-- a call from its body -/
theorem call_ev {sp} {md : Bool} {f : Nat} {fn : Func} {c : Code} {n : Nat} {k : Nat} {args : List AVal} {H : Hp} {rs : List ResultVar} {Post : AVal → Hp → Prop} (hsp : sp md f = none) (hf : Go.Proofs.Tryz.prog.funcs[f]? = some fn) (hb : fn.body = some c) (hrs : fn.results.toList = rs)
    (hla : args.length < maxTmp) (hn : max fn.ntmps args.length = n) (hfrz : (env sp).frz md f = false) (hfrzI : (env sp).frzIn f = false)
    (hev : Ev (env sp) (evalCall (env sp) k) md f c (⟨params 0 args .nil, ⟨.nil, 0⟩, n⟩, H) fun ex s => ex.leaves = true ∧ ∃ vs, results (env sp) s.1.tm s.1.lv s.2 rs = some vs ∧ Post (packA vs) s.2) :
    ∃ r, evalCall (env sp) (k + 1) md f args H = some r ∧ Post r.1 r.2 := by
  obtain ⟨⟨ex, s⟩, h1, h2, vs, h3, h4⟩ := hev
  exact ⟨_, call_done hsp hf hb hrs hla hn hfrz hfrzI h1 h2 h3, h4⟩

/-- a call whose result is laid as lists -/
theorem call_evF {sp} {md : Bool} {f : Nat} {fn : Func} {c : Code} {n : Nat} {k : Nat} {args : List AVal} {H : Hp} {rs : List ResultVar} {Post : AVal → Hp → Prop} (hsp : sp md f = none) (hf : Go.Proofs.Tryz.prog.funcs[f]? = some fn) (hb : fn.body = some c) (hrs : fn.results.toList = rs)
    (hla : args.length < maxTmp) (hn : max fn.ntmps args.length = n) (hfrz : (env sp).frz md f = true)
    (hev : Ev (env sp) (evalCall (env sp) k) md f c (⟨params 0 args .nil, ⟨.nil, 0⟩, n⟩, H) fun ex s => ex.leaves = true ∧ ∃ vs, results (env sp) s.1.tm s.1.lv s.2 rs = some vs ∧ Post (packA (freezeN 1000 s.2 vs).1) (freezeN 1000 s.2 vs).2) :
    ∃ r, evalCall (env sp) (k + 1) md f args H = some r ∧ Post r.1 r.2 := by
  obtain ⟨⟨ex, s⟩, h1, h2, vs, h3, h4⟩ := hev
  refine ⟨(packA (freezeN 1000 s.2 vs).1, (freezeN 1000 s.2 vs).2), ?_, h4⟩
  rw [evalCall]
  have e1 : (env sp).spec md f = none := hsp
  have e2 : (env sp).fn f = some fn := hf
  simp only [e1, e2, hb, if_pos hla, hn, h1, h2, if_true, hrs, h3, hfrz]

theorem nc0 : ((0 : Nat) : Int) = 0 := rfl
theorem nc1 : ((1 : Nat) : Int) = 1 := rfl
theorem nc2 : ((2 : Nat) : Int) = 2 := rfl
theorem nc3 : ((3 : Nat) : Int) = 3 := rfl
theorem nc4 : ((4 : Nat) : Int) = 4 := rfl
theorem wrap_nat {n : Nat} (h : n + 1 < 9223372036854775808) : IntKind.i64.wrap ((n : Int) + 1) = ((n + 1 : Nat) : Int) := by
  rw [IntKind.wrap_i64]; omega
end Seat
end Go.Rs
end
/- The order of drawn regions. MADE BY PROGRAM (ord.py). -/
section
namespace Go.Rs.Seat.Rg
open Go.Proofs
set_option maxRecDepth 100000

noncomputable def d4_9 : List (Nat × Oper × Bool) := pickOps (regF Tryz.f4 9).toList [(0, true), (1, true), (2, false), (3, false), (4, false), (5, false), (6, false), (7, false), (8, false), (9, false), (10, false)]
theorem drw4_9 (sp) (call : CallF) (md : Bool) (st : St) : evalCode (env sp) call md 4 (.region 9 o4_9 true) st = match (match runDraw (env sp) call md 4 o4_9.toList st.1.n [(4, (0, 1))] d4_9 st.1.tm st.1.lv st.2 [] [] with | some (tm, lv, H, sts, rs) => (match rs with | [] => some ({ st.1 with tm := tm, lv := lv }, H) | _ => if askRecs (env sp) md 4 o4_9.toList (((lv, H) :: sts).reverse) rs then some ({ st.1 with tm := tm, lv := lv }, H) else none) | none => none) with | some st => some (.normal, st) | none => none := by
  have h : orderA o4_9.toList = d4_9 := by kernel_rfl
  have h2 : (env sp).ask 4 9 = [(4, (0, 1))] := by kernel_rfl
  simp only [evalCode, regionA, h, h2, if_true]
  rfl
noncomputable def d4_10 : List (Nat × Oper × Bool) := pickOps (regF Tryz.f4 10).toList [(0, true), (1, false), (2, false), (3, false), (4, false), (5, false), (6, false), (7, false), (8, false)]
theorem drw4_10 (sp) (call : CallF) (md : Bool) (st : St) : evalCode (env sp) call md 4 (.region 10 o4_10 true) st = match (match runDraw (env sp) call md 4 o4_10.toList st.1.n [(2, (0, 1))] d4_10 st.1.tm st.1.lv st.2 [] [] with | some (tm, lv, H, sts, rs) => (match rs with | [] => some ({ st.1 with tm := tm, lv := lv }, H) | _ => if askRecs (env sp) md 4 o4_10.toList (((lv, H) :: sts).reverse) rs then some ({ st.1 with tm := tm, lv := lv }, H) else none) | none => none) with | some st => some (.normal, st) | none => none := by
  have h : orderA o4_10.toList = d4_10 := by kernel_rfl
  have h2 : (env sp).ask 4 10 = [(2, (0, 1))] := by kernel_rfl
  simp only [evalCode, regionA, h, h2, if_true]
  rfl
noncomputable def d5_8 : List (Nat × Oper × Bool) := pickOps (regF Tryz.f5 8).toList [(0, true), (1, false), (2, false), (3, false), (4, false), (5, false), (6, false), (7, false), (8, false)]
theorem drw5_8 (sp) (call : CallF) (md : Bool) (st : St) : evalCode (env sp) call md 5 (.region 8 o5_8 true) st = match (match runDraw (env sp) call md 5 o5_8.toList st.1.n [(2, (0, 1))] d5_8 st.1.tm st.1.lv st.2 [] [] with | some (tm, lv, H, sts, rs) => (match rs with | [] => some ({ st.1 with tm := tm, lv := lv }, H) | _ => if askRecs (env sp) md 5 o5_8.toList (((lv, H) :: sts).reverse) rs then some ({ st.1 with tm := tm, lv := lv }, H) else none) | none => none) with | some st => some (.normal, st) | none => none := by
  have h : orderA o5_8.toList = d5_8 := by kernel_rfl
  have h2 : (env sp).ask 5 8 = [(2, (0, 1))] := by kernel_rfl
  simp only [evalCode, regionA, h, h2, if_true]
  rfl
noncomputable def d9_6 : List (Nat × Oper × Bool) := pickOps (regF Tryz.f9 6).toList [(2, true), (3, true), (0, false), (1, false), (4, false), (5, false), (6, false), (7, false), (8, false), (9, false)]
theorem drw9_6 (sp) (call : CallF) (md : Bool) (st : St) : evalCode (env sp) call md 9 (.region 6 o9_6 true) st = match (match runDraw (env sp) call md 9 o9_6.toList st.1.n [(1, (0, 1))] d9_6 st.1.tm st.1.lv st.2 [] [] with | some (tm, lv, H, sts, rs) => (match rs with | [] => some ({ st.1 with tm := tm, lv := lv }, H) | _ => if askRecs (env sp) md 9 o9_6.toList (((lv, H) :: sts).reverse) rs then some ({ st.1 with tm := tm, lv := lv }, H) else none) | none => none) with | some st => some (.normal, st) | none => none := by
  have h : orderA o9_6.toList = d9_6 := by kernel_rfl
  have h2 : (env sp).ask 9 6 = [(1, (0, 1))] := by kernel_rfl
  simp only [evalCode, regionA, h, h2, if_true]
  rfl
noncomputable def d14_6 : List (Nat × Oper × Bool) := pickOps (regF Tryz.f14 6).toList [(0, true), (1, true), (4, true), (5, true), (2, false), (3, false), (6, false), (7, false), (8, false)]
theorem drw14_6 (sp) (call : CallF) (md : Bool) (st : St) : evalCode (env sp) call md 14 (.region 6 o14_6 true) st = match (match runD (env sp) call md 14 o14_6.toList st.1.n d14_6 st.1.tm st.1.lv st.2 with | some (tm, lv, H) => some ({ st.1 with tm := tm, lv := lv }, H) | none => none) with | some st => some (.normal, st) | none => none := by
  have h : orderA o14_6.toList = d14_6 := by kernel_rfl
  simp only [evalCode, regionA_draw (ask_14 sp 6), h]
  rfl
noncomputable def d25_4 : List (Nat × Oper × Bool) := pickOps (regF Tryz.f25 4).toList [(0, true), (4, true), (9, true), (17, true), (22, true), (30, true), (1, false), (2, false), (3, false), (5, false), (6, false), (7, false), (8, false), (10, false), (11, false), (12, false), (13, false), (14, false), (15, false), (16, false), (18, false), (19, false), (20, false), (21, false), (23, false), (24, false), (25, false), (26, false), (27, false), (28, false), (29, false), (31, false), (32, false)]
theorem drw25_4 (sp) (call : CallF) (md : Bool) (st : St) : evalCode (env sp) call md 25 (.region 4 o25_4 true) st = match (match runD (env sp) call md 25 o25_4.toList st.1.n d25_4 st.1.tm st.1.lv st.2 with | some (tm, lv, H) => some ({ st.1 with tm := tm, lv := lv }, H) | none => none) with | some st => some (.normal, st) | none => none := by
  have h : orderA o25_4.toList = d25_4 := by kernel_rfl
  simp only [evalCode, regionA_draw (ask_25 sp 4), h]
  rfl
noncomputable def d26_17 : List (Nat × Oper × Bool) := pickOps (regF Tryz.f26 17).toList [(2, true), (3, true), (0, false), (1, false), (4, false), (5, false), (6, false), (7, false), (8, false), (9, false)]
theorem drw26_17 (sp) (call : CallF) (md : Bool) (st : St) : evalCode (env sp) call md 26 (.region 17 o26_17 true) st = match (match runDraw (env sp) call md 26 o26_17.toList st.1.n [(1, (0, 1))] d26_17 st.1.tm st.1.lv st.2 [] [] with | some (tm, lv, H, sts, rs) => (match rs with | [] => some ({ st.1 with tm := tm, lv := lv }, H) | _ => if askRecs (env sp) md 26 o26_17.toList (((lv, H) :: sts).reverse) rs then some ({ st.1 with tm := tm, lv := lv }, H) else none) | none => none) with | some st => some (.normal, st) | none => none := by
  have h : orderA o26_17.toList = d26_17 := by kernel_rfl
  have h2 : (env sp).ask 26 17 = [(1, (0, 1))] := by kernel_rfl
  simp only [evalCode, regionA, h, h2, if_true]
  rfl
noncomputable def d28_14 : List (Nat × Oper × Bool) := pickOps (regF Tryz.f28 14).toList [(0, true), (2, true), (4, true), (1, false), (3, false), (5, false), (6, false), (7, false), (8, false), (9, false)]
theorem drw28_14 (sp) (call : CallF) (md : Bool) (st : St) : evalCode (env sp) call md 28 (.region 14 o28_14 true) st = match (match runDraw (env sp) call md 28 o28_14.toList st.1.n [(1, (0, 2))] d28_14 st.1.tm st.1.lv st.2 [] [] with | some (tm, lv, H, sts, rs) => (match rs with | [] => some ({ st.1 with tm := tm, lv := lv }, H) | _ => if askRecs (env sp) md 28 o28_14.toList (((lv, H) :: sts).reverse) rs then some ({ st.1 with tm := tm, lv := lv }, H) else none) | none => none) with | some st => some (.normal, st) | none => none := by
  have h : orderA o28_14.toList = d28_14 := by kernel_rfl
  have h2 : (env sp).ask 28 14 = [(1, (0, 2))] := by kernel_rfl
  simp only [evalCode, regionA, h, h2, if_true]
  rfl
noncomputable def d29_12 : List (Nat × Oper × Bool) := pickOps (regF Tryz.f29 12).toList [(0, true), (5, true), (9, true), (1, false), (2, false), (3, false), (4, false), (6, false), (7, false), (8, false), (10, false), (11, false), (12, false), (13, false), (14, false), (15, false), (16, false), (17, false)]
theorem drw29_12 (sp) (call : CallF) (md : Bool) (st : St) : evalCode (env sp) call md 29 (.region 12 o29_12 true) st = match (match runDraw (env sp) call md 29 o29_12.toList st.1.n [(2, (0, 1))] d29_12 st.1.tm st.1.lv st.2 [] [] with | some (tm, lv, H, sts, rs) => (match rs with | [] => some ({ st.1 with tm := tm, lv := lv }, H) | _ => if askRecs (env sp) md 29 o29_12.toList (((lv, H) :: sts).reverse) rs then some ({ st.1 with tm := tm, lv := lv }, H) else none) | none => none) with | some st => some (.normal, st) | none => none := by
  have h : orderA o29_12.toList = d29_12 := by kernel_rfl
  have h2 : (env sp).ask 29 12 = [(2, (0, 1))] := by kernel_rfl
  simp only [evalCode, regionA, h, h2, if_true]
  rfl
noncomputable def d29_18 : List (Nat × Oper × Bool) := pickOps (regF Tryz.f29 18).toList [(1, true), (4, true), (0, false), (2, false), (3, false), (5, false), (6, false), (7, false), (8, false)]
theorem drw29_18 (sp) (call : CallF) (md : Bool) (st : St) : evalCode (env sp) call md 29 (.region 18 o29_18 true) st = match (match runDraw (env sp) call md 29 o29_18.toList st.1.n [(0, (0, 2))] d29_18 st.1.tm st.1.lv st.2 [] [] with | some (tm, lv, H, sts, rs) => (match rs with | [] => some ({ st.1 with tm := tm, lv := lv }, H) | _ => if askRecs (env sp) md 29 o29_18.toList (((lv, H) :: sts).reverse) rs then some ({ st.1 with tm := tm, lv := lv }, H) else none) | none => none) with | some st => some (.normal, st) | none => none := by
  have h : orderA o29_18.toList = d29_18 := by kernel_rfl
  have h2 : (env sp).ask 29 18 = [(0, (0, 2))] := by kernel_rfl
  simp only [evalCode, regionA, h, h2, if_true]
  rfl
noncomputable def d52_13 : List (Nat × Oper × Bool) := pickOps (regF Tryz.f52 13).toList [(3, true), (6, true), (0, false), (1, false), (2, false), (4, false), (5, false), (7, false), (8, false), (9, false), (10, false), (11, false), (12, false)]
theorem drw52_13 (sp) (call : CallF) (md : Bool) (st : St) : evalCode (env sp) call md 52 (.region 13 o52_13 true) st = match (match runD (env sp) call md 52 o52_13.toList st.1.n d52_13 st.1.tm st.1.lv st.2 with | some (tm, lv, H) => some ({ st.1 with tm := tm, lv := lv }, H) | none => none) with | some st => some (.normal, st) | none => none := by
  have h : orderA o52_13.toList = d52_13 := by kernel_rfl
  simp only [evalCode, regionA_draw (ask_52 sp 13), h]
  rfl
end Go.Rs.Seat.Rg
end
/- Entering the functions. MADE BY PROGRAM (ent.py). -/
section
namespace Go.Rs.Seat
open Go.Proofs Rg
set_option maxRecDepth 100000

theorem res8 : Tryz.f8.results.toList = [.tmp 2] := by kernel_rfl
theorem enter8 {sp} {md : Bool} {k : Nat} {args : List AVal} {H : Hp} {Post : AVal → Hp → Prop} (hsp : sp md 8 = none) (hl : args.length = 1)
    (hev : Ev (env sp) (evalCall (env sp) k) md 8 c8 (⟨params 0 args .nil, ⟨.nil, 0⟩, 20⟩, H) fun ex s => ex.leaves = true ∧ ∃ vs, results (env sp) s.1.tm s.1.lv s.2 [.tmp 2] = some vs ∧ Post (packA vs) s.2) :
    ∃ r, evalCall (env sp) (k + 1) md 8 args H = some r ∧ Post r.1 r.2 :=
  call_ev hsp Tryz.func8 body8 res8 (by rw [hl]; decide) (by rw [hl]; kernel_rfl) (frz_8 sp md) (frzIn_8 sp) hev

theorem res9 : Tryz.f9.results.toList = [.cell 4 29] := by kernel_rfl
theorem enter9 {sp} {md : Bool} {k : Nat} {args : List AVal} {H : Hp} {Post : AVal → Hp → Prop} (hsp : sp md 9 = none) (hl : args.length = 2)
    (hev : Ev (env sp) (evalCall (env sp) k) md 9 c9 (⟨params 0 args .nil, ⟨.nil, 0⟩, 48⟩, H) fun ex s => ex.leaves = true ∧ ∃ vs, results (env sp) s.1.tm s.1.lv s.2 [.cell 4 29] = some vs ∧ Post (packA vs) s.2) :
    ∃ r, evalCall (env sp) (k + 1) md 9 args H = some r ∧ Post r.1 r.2 :=
  call_ev hsp Tryz.func9 body9 res9 (by rw [hl]; decide) (by rw [hl]; kernel_rfl) (frz_9 sp md) (frzIn_9 sp) hev

theorem res10 : Tryz.f10.results.toList = [.tmp 2] := by kernel_rfl
theorem enter10 {sp} {md : Bool} {k : Nat} {args : List AVal} {H : Hp} {Post : AVal → Hp → Prop} (hsp : sp md 10 = none) (hl : args.length = 1)
    (hev : Ev (env sp) (evalCall (env sp) k) md 10 c10 (⟨params 0 args .nil, ⟨.nil, 0⟩, 28⟩, H) fun ex s => ex.leaves = true ∧ ∃ vs, results (env sp) s.1.tm s.1.lv s.2 [.tmp 2] = some vs ∧ Post (packA vs) s.2) :
    ∃ r, evalCall (env sp) (k + 1) md 10 args H = some r ∧ Post r.1 r.2 :=
  call_ev hsp Tryz.func10 body10 res10 (by rw [hl]; decide) (by rw [hl]; kernel_rfl) (frz_10 sp md) (frzIn_10 sp) hev

theorem res11 : Tryz.f11.results.toList = [.cell 2 41] := by kernel_rfl
theorem enter11 {sp} {md : Bool} {k : Nat} {args : List AVal} {H : Hp} {Post : AVal → Hp → Prop} (hsp : sp md 11 = none) (hl : args.length = 1)
    (hev : Ev (env sp) (evalCall (env sp) k) md 11 c11 (⟨params 0 args .nil, ⟨.nil, 0⟩, 23⟩, H) fun ex s => ex.leaves = true ∧ ∃ vs, results (env sp) s.1.tm s.1.lv s.2 [.cell 2 41] = some vs ∧ Post (packA vs) s.2) :
    ∃ r, evalCall (env sp) (k + 1) md 11 args H = some r ∧ Post r.1 r.2 :=
  call_ev hsp Tryz.func11 body11 res11 (by rw [hl]; decide) (by rw [hl]; kernel_rfl) (frz_11 sp md) (frzIn_11 sp) hev

theorem res12 : Tryz.f12.results.toList = [.tmp 4] := by kernel_rfl
theorem enter12 {sp} {md : Bool} {k : Nat} {args : List AVal} {H : Hp} {Post : AVal → Hp → Prop} (hsp : sp md 12 = none) (hl : args.length = 2)
    (hev : Ev (env sp) (evalCall (env sp) k) md 12 c12 (⟨params 0 args .nil, ⟨.nil, 0⟩, 9⟩, H) fun ex s => ex.leaves = true ∧ ∃ vs, results (env sp) s.1.tm s.1.lv s.2 [.tmp 4] = some vs ∧ Post (packA vs) s.2) :
    ∃ r, evalCall (env sp) (k + 1) md 12 args H = some r ∧ Post r.1 r.2 :=
  call_ev hsp Tryz.func12 body12 res12 (by rw [hl]; decide) (by rw [hl]; kernel_rfl) (frz_12 sp md) (frzIn_12 sp) hev

theorem res13 : Tryz.f13.results.toList = [.tmp 3] := by kernel_rfl
theorem enter13 {sp} {md : Bool} {k : Nat} {args : List AVal} {H : Hp} {Post : AVal → Hp → Prop} (hsp : sp md 13 = none) (hl : args.length = 2)
    (hev : Ev (env sp) (evalCall (env sp) k) md 13 c13 (⟨params 0 args .nil, ⟨.nil, 0⟩, 40⟩, H) fun ex s => ex.leaves = true ∧ ∃ vs, results (env sp) s.1.tm s.1.lv s.2 [.tmp 3] = some vs ∧ Post (packA vs) s.2) :
    ∃ r, evalCall (env sp) (k + 1) md 13 args H = some r ∧ Post r.1 r.2 :=
  call_ev hsp Tryz.func13 body13 res13 (by rw [hl]; decide) (by rw [hl]; kernel_rfl) (frz_13 sp md) (frzIn_13 sp) hev

theorem res14 : Tryz.f14.results.toList = [.tmp 4] := by kernel_rfl
theorem enter14 {sp} {md : Bool} {k : Nat} {args : List AVal} {H : Hp} {Post : AVal → Hp → Prop} (hsp : sp md 14 = none) (hl : args.length = 2)
    (hev : Ev (env sp) (evalCall (env sp) k) md 14 c14 (⟨params 0 args .nil, ⟨.nil, 0⟩, 26⟩, H) fun ex s => ex.leaves = true ∧ ∃ vs, results (env sp) s.1.tm s.1.lv s.2 [.tmp 4] = some vs ∧ Post (packA vs) s.2) :
    ∃ r, evalCall (env sp) (k + 1) md 14 args H = some r ∧ Post r.1 r.2 :=
  call_ev hsp Tryz.func14 body14 res14 (by rw [hl]; decide) (by rw [hl]; kernel_rfl) (frz_14 sp md) (frzIn_14 sp) hev

theorem res15 : Tryz.f15.results.toList = [.tmp 4] := by kernel_rfl
theorem enter15 {sp} {md : Bool} {k : Nat} {args : List AVal} {H : Hp} {Post : AVal → Hp → Prop} (hsp : sp md 15 = none) (hl : args.length = 2)
    (hev : Ev (env sp) (evalCall (env sp) k) md 15 c15 (⟨params 0 args .nil, ⟨.nil, 0⟩, 62⟩, H) fun ex s => ex.leaves = true ∧ ∃ vs, results (env sp) s.1.tm s.1.lv s.2 [.tmp 4] = some vs ∧ Post (packA vs) s.2) :
    ∃ r, evalCall (env sp) (k + 1) md 15 args H = some r ∧ Post r.1 r.2 :=
  call_ev hsp Tryz.func15 body15 res15 (by rw [hl]; decide) (by rw [hl]; kernel_rfl) (frz_15 sp md) (frzIn_15 sp) hev

theorem res17 : Tryz.f17.results.toList = [.tmp 4, .tmp 5] := by kernel_rfl
theorem enter17 {sp} {md : Bool} {k : Nat} {args : List AVal} {H : Hp} {Post : AVal → Hp → Prop} (hsp : sp md 17 = none) (hl : args.length = 2)
    (hev : Ev (env sp) (evalCall (env sp) k) md 17 c17 (⟨params 0 args .nil, ⟨.nil, 0⟩, 31⟩, H) fun ex s => ex.leaves = true ∧ ∃ vs, results (env sp) s.1.tm s.1.lv s.2 [.tmp 4, .tmp 5] = some vs ∧ Post (packA vs) s.2) :
    ∃ r, evalCall (env sp) (k + 1) md 17 args H = some r ∧ Post r.1 r.2 :=
  call_ev hsp Tryz.func17 body17 res17 (by rw [hl]; decide) (by rw [hl]; kernel_rfl) (frz_17 sp md) (frzIn_17 sp) hev

theorem res18 : Tryz.f18.results.toList = [.tmp 4, .tmp 5] := by kernel_rfl
theorem enter18 {sp} {md : Bool} {k : Nat} {args : List AVal} {H : Hp} {Post : AVal → Hp → Prop} (hsp : sp md 18 = none) (hl : args.length = 2)
    (hev : Ev (env sp) (evalCall (env sp) k) md 18 c18 (⟨params 0 args .nil, ⟨.nil, 0⟩, 27⟩, H) fun ex s => ex.leaves = true ∧ ∃ vs, results (env sp) s.1.tm s.1.lv s.2 [.tmp 4, .tmp 5] = some vs ∧ Post (packA vs) s.2) :
    ∃ r, evalCall (env sp) (k + 1) md 18 args H = some r ∧ Post r.1 r.2 :=
  call_ev hsp Tryz.func18 body18 res18 (by rw [hl]; decide) (by rw [hl]; kernel_rfl) (frz_18 sp md) (frzIn_18 sp) hev

theorem res25 : Tryz.f25.results.toList = [.tmp 4] := by kernel_rfl
theorem enter25 {sp} {md : Bool} {k : Nat} {args : List AVal} {H : Hp} {Post : AVal → Hp → Prop} (hsp : sp md 25 = none) (hl : args.length = 2)
    (hev : Ev (env sp) (evalCall (env sp) k) md 25 c25 (⟨params 0 args .nil, ⟨.nil, 0⟩, 50⟩, H) fun ex s => ex.leaves = true ∧ ∃ vs, results (env sp) s.1.tm s.1.lv s.2 [.tmp 4] = some vs ∧ Post (packA vs) s.2) :
    ∃ r, evalCall (env sp) (k + 1) md 25 args H = some r ∧ Post r.1 r.2 :=
  call_ev hsp Tryz.func25 body25 res25 (by rw [hl]; decide) (by rw [hl]; kernel_rfl) (frz_25 sp md) (frzIn_25 sp) hev

theorem res26 : Tryz.f26.results.toList = [.cell 4 36] := by kernel_rfl
theorem enter26 {sp} {md : Bool} {k : Nat} {args : List AVal} {H : Hp} {Post : AVal → Hp → Prop} (hsp : sp md 26 = none) (hl : args.length = 2)
    (hev : Ev (env sp) (evalCall (env sp) k) md 26 c26 (⟨params 0 args .nil, ⟨.nil, 0⟩, 56⟩, H) fun ex s => ex.leaves = true ∧ ∃ vs, results (env sp) s.1.tm s.1.lv s.2 [.cell 4 36] = some vs ∧ Post (packA vs) s.2) :
    ∃ r, evalCall (env sp) (k + 1) md 26 args H = some r ∧ Post r.1 r.2 :=
  call_ev hsp Tryz.func26 body26 res26 (by rw [hl]; decide) (by rw [hl]; kernel_rfl) (frz_26 sp md) (frzIn_26 sp) hev

theorem res27 : Tryz.f27.results.toList = [.tmp 4] := by kernel_rfl
theorem enter27 {sp} {md : Bool} {k : Nat} {args : List AVal} {H : Hp} {Post : AVal → Hp → Prop} (hsp : sp md 27 = none) (hl : args.length = 2)
    (hev : Ev (env sp) (evalCall (env sp) k) md 27 c27 (⟨params 0 args .nil, ⟨.nil, 0⟩, 12⟩, H) fun ex s => ex.leaves = true ∧ ∃ vs, results (env sp) s.1.tm s.1.lv s.2 [.tmp 4] = some vs ∧ Post (packA vs) s.2) :
    ∃ r, evalCall (env sp) (k + 1) md 27 args H = some r ∧ Post r.1 r.2 :=
  call_ev hsp Tryz.func27 body27 res27 (by rw [hl]; decide) (by rw [hl]; kernel_rfl) (frz_27 sp md) (frzIn_27 sp) hev

theorem res28 : Tryz.f28.results.toList = [.tmp 4] := by kernel_rfl
theorem enter28 {sp} {md : Bool} {k : Nat} {args : List AVal} {H : Hp} {Post : AVal → Hp → Prop} (hsp : sp md 28 = none) (hl : args.length = 2)
    (hev : Ev (env sp) (evalCall (env sp) k) md 28 c28 (⟨params 0 args .nil, ⟨.nil, 0⟩, 72⟩, H) fun ex s => ex.leaves = true ∧ ∃ vs, results (env sp) s.1.tm s.1.lv s.2 [.tmp 4] = some vs ∧ Post (packA vs) s.2) :
    ∃ r, evalCall (env sp) (k + 1) md 28 args H = some r ∧ Post r.1 r.2 :=
  call_ev hsp Tryz.func28 body28 res28 (by rw [hl]; decide) (by rw [hl]; kernel_rfl) (frz_28 sp md) (frzIn_28 sp) hev

theorem res29 : Tryz.f29.results.toList = [.cell 2 41] := by kernel_rfl
theorem enter29 {sp} {md : Bool} {k : Nat} {args : List AVal} {H : Hp} {Post : AVal → Hp → Prop} (hsp : sp md 29 = none) (hl : args.length = 1)
    (hev : Ev (env sp) (evalCall (env sp) k) md 29 c29 (⟨params 0 args .nil, ⟨.nil, 0⟩, 85⟩, H) fun ex s => ex.leaves = true ∧ ∃ vs, results (env sp) s.1.tm s.1.lv s.2 [.cell 2 41] = some vs ∧ Post (packA vs) s.2) :
    ∃ r, evalCall (env sp) (k + 1) md 29 args H = some r ∧ Post r.1 r.2 :=
  call_ev hsp Tryz.func29 body29 res29 (by rw [hl]; decide) (by rw [hl]; kernel_rfl) (frz_29 sp md) (frzIn_29 sp) hev

theorem res30 : Tryz.f30.results.toList = [.tmp 4] := by kernel_rfl
theorem enter30 {sp} {md : Bool} {k : Nat} {args : List AVal} {H : Hp} {Post : AVal → Hp → Prop} (hsp : sp md 30 = none) (hl : args.length = 2)
    (hev : Ev (env sp) (evalCall (env sp) k) md 30 c30 (⟨params 0 args .nil, ⟨.nil, 0⟩, 19⟩, H) fun ex s => ex.leaves = true ∧ ∃ vs, results (env sp) s.1.tm s.1.lv s.2 [.tmp 4] = some vs ∧ Post (packA vs) s.2) :
    ∃ r, evalCall (env sp) (k + 1) md 30 args H = some r ∧ Post r.1 r.2 :=
  call_ev hsp Tryz.func30 body30 res30 (by rw [hl]; decide) (by rw [hl]; kernel_rfl) (frz_30 sp md) (frzIn_30 sp) hev

theorem res32 : Tryz.f32.results.toList = [.tmp 4, .tmp 5] := by kernel_rfl
theorem enter32 {sp} {md : Bool} {k : Nat} {args : List AVal} {H : Hp} {Post : AVal → Hp → Prop} (hsp : sp md 32 = none) (hl : args.length = 2)
    (hev : Ev (env sp) (evalCall (env sp) k) md 32 c32 (⟨params 0 args .nil, ⟨.nil, 0⟩, 18⟩, H) fun ex s => ex.leaves = true ∧ ∃ vs, results (env sp) s.1.tm s.1.lv s.2 [.tmp 4, .tmp 5] = some vs ∧ Post (packA vs) s.2) :
    ∃ r, evalCall (env sp) (k + 1) md 32 args H = some r ∧ Post r.1 r.2 :=
  call_ev hsp Tryz.func32 body32 res32 (by rw [hl]; decide) (by rw [hl]; kernel_rfl) (frz_32 sp md) (frzIn_32 sp) hev

theorem res47 : Tryz.f47.results.toList = [.tmp 2] := by kernel_rfl
theorem enter47 {sp} {md : Bool} {k : Nat} {args : List AVal} {H : Hp} {Post : AVal → Hp → Prop} (hsp : sp md 47 = none) (hl : args.length = 1)
    (hev : Ev (env sp) (evalCall (env sp) k) md 47 c47 (⟨params 0 args .nil, ⟨.nil, 0⟩, 8⟩, H) fun ex s => ex.leaves = true ∧ ∃ vs, results (env sp) s.1.tm s.1.lv s.2 [.tmp 2] = some vs ∧ Post (packA vs) s.2) :
    ∃ r, evalCall (env sp) (k + 1) md 47 args H = some r ∧ Post r.1 r.2 :=
  call_ev hsp Tryz.func47 body47 res47 (by rw [hl]; decide) (by rw [hl]; kernel_rfl) (frz_47 sp md) (frzIn_47 sp) hev

theorem res48 : Tryz.f48.results.toList = [.tmp 3] := by kernel_rfl
theorem enter48 {sp} {md : Bool} {k : Nat} {args : List AVal} {H : Hp} {Post : AVal → Hp → Prop} (hsp : sp md 48 = none) (hl : args.length = 2)
    (hev : Ev (env sp) (evalCall (env sp) k) md 48 c48 (⟨params 0 args .nil, ⟨.nil, 0⟩, 7⟩, H) fun ex s => ex.leaves = true ∧ ∃ vs, results (env sp) s.1.tm s.1.lv s.2 [.tmp 3] = some vs ∧ Post (packA vs) s.2) :
    ∃ r, evalCall (env sp) (k + 1) md 48 args H = some r ∧ Post r.1 r.2 :=
  call_ev hsp Tryz.func48 body48 res48 (by rw [hl]; decide) (by rw [hl]; kernel_rfl) (frz_48 sp md) (frzIn_48 sp) hev

theorem res49 : Tryz.f49.results.toList = [.tmp 4] := by kernel_rfl
theorem enter49 {sp} {md : Bool} {k : Nat} {args : List AVal} {H : Hp} {Post : AVal → Hp → Prop} (hsp : sp md 49 = none) (hl : args.length = 2)
    (hev : Ev (env sp) (evalCall (env sp) k) md 49 c49 (⟨params 0 args .nil, ⟨.nil, 0⟩, 37⟩, H) fun ex s => ex.leaves = true ∧ ∃ vs, results (env sp) s.1.tm s.1.lv s.2 [.tmp 4] = some vs ∧ Post (packA vs) s.2) :
    ∃ r, evalCall (env sp) (k + 1) md 49 args H = some r ∧ Post r.1 r.2 :=
  call_ev hsp Tryz.func49 body49 res49 (by rw [hl]; decide) (by rw [hl]; kernel_rfl) (frz_49 sp md) (frzIn_49 sp) hev

theorem res50 : Tryz.f50.results.toList = [.tmp 2] := by kernel_rfl
theorem enter50 {sp} {md : Bool} {k : Nat} {args : List AVal} {H : Hp} {Post : AVal → Hp → Prop} (hsp : sp md 50 = none) (hl : args.length = 1)
    (hev : Ev (env sp) (evalCall (env sp) k) md 50 c50 (⟨params 0 args .nil, ⟨.nil, 0⟩, 36⟩, H) fun ex s => ex.leaves = true ∧ ∃ vs, results (env sp) s.1.tm s.1.lv s.2 [.tmp 2] = some vs ∧ Post (packA (freezeN 1000 s.2 vs).1) (freezeN 1000 s.2 vs).2) :
    ∃ r, evalCall (env sp) (k + 1) md 50 args H = some r ∧ Post r.1 r.2 :=
  call_evF hsp Tryz.func50 body50 res50 (by rw [hl]; decide) (by rw [hl]; kernel_rfl) (frz_50 sp md) hev

theorem res51 : Tryz.f51.results.toList = [.tmp 3] := by kernel_rfl
theorem enter51 {sp} {md : Bool} {k : Nat} {args : List AVal} {H : Hp} {Post : AVal → Hp → Prop} (hsp : sp md 51 = none) (hl : args.length = 2)
    (hev : Ev (env sp) (evalCall (env sp) k) md 51 c51 (⟨params 0 args .nil, ⟨.nil, 0⟩, 9⟩, H) fun ex s => ex.leaves = true ∧ ∃ vs, results (env sp) s.1.tm s.1.lv s.2 [.tmp 3] = some vs ∧ Post (packA vs) s.2) :
    ∃ r, evalCall (env sp) (k + 1) md 51 args H = some r ∧ Post r.1 r.2 :=
  call_ev hsp Tryz.func51 body51 res51 (by rw [hl]; decide) (by rw [hl]; kernel_rfl) (frz_51 sp md) (frzIn_51 sp) hev

theorem res52 : Tryz.f52.results.toList = [.tmp 6, .tmp 7] := by kernel_rfl
theorem enter52 {sp} {md : Bool} {k : Nat} {args : List AVal} {H : Hp} {Post : AVal → Hp → Prop} (hsp : sp md 52 = none) (hl : args.length = 3)
    (hev : Ev (env sp) (evalCall (env sp) k) md 52 c52 (⟨params 0 args .nil, ⟨.nil, 0⟩, 70⟩, H) fun ex s => ex.leaves = true ∧ ∃ vs, results (env sp) s.1.tm s.1.lv s.2 [.tmp 6, .tmp 7] = some vs ∧ Post (packA vs) s.2) :
    ∃ r, evalCall (env sp) (k + 1) md 52 args H = some r ∧ Post r.1 r.2 :=
  call_ev hsp Tryz.func52 body52 res52 (by rw [hl]; decide) (by rw [hl]; kernel_rfl) (frz_52 sp md) (frzIn_52 sp) hev

theorem res53 : Tryz.f53.results.toList = [.tmp 2] := by kernel_rfl
theorem enter53 {sp} {md : Bool} {k : Nat} {args : List AVal} {H : Hp} {Post : AVal → Hp → Prop} (hsp : sp md 53 = none) (hl : args.length = 1)
    (hev : Ev (env sp) (evalCall (env sp) k) md 53 c53 (⟨params 0 args .nil, ⟨.nil, 0⟩, 5⟩, H) fun ex s => ex.leaves = true ∧ ∃ vs, results (env sp) s.1.tm s.1.lv s.2 [.tmp 2] = some vs ∧ Post (packA vs) s.2) :
    ∃ r, evalCall (env sp) (k + 1) md 53 args H = some r ∧ Post r.1 r.2 :=
  call_ev hsp Tryz.func53 body53 res53 (by rw [hl]; decide) (by rw [hl]; kernel_rfl) (frz_53 sp md) (frzIn_53 sp) hev

theorem res74 : Tryz.f74.results.toList = [.tmp 4] := by kernel_rfl
theorem enter74 {sp} {md : Bool} {k : Nat} {args : List AVal} {H : Hp} {Post : AVal → Hp → Prop} (hsp : sp md 74 = none) (hl : args.length = 2)
    (hev : Ev (env sp) (evalCall (env sp) k) md 74 c74 (⟨params 0 args .nil, ⟨.nil, 0⟩, 27⟩, H) fun ex s => ex.leaves = true ∧ ∃ vs, results (env sp) s.1.tm s.1.lv s.2 [.tmp 4] = some vs ∧ Post (packA vs) s.2) :
    ∃ r, evalCall (env sp) (k + 1) md 74 args H = some r ∧ Post r.1 r.2 :=
  call_ev hsp Tryz.func74 body74 res74 (by rw [hl]; decide) (by rw [hl]; kernel_rfl) (frz_74 sp md) (frzIn_74 sp) hev

theorem res75 : Tryz.f75.results.toList = [.tmp 4] := by kernel_rfl
theorem enter75 {sp} {md : Bool} {k : Nat} {args : List AVal} {H : Hp} {Post : AVal → Hp → Prop} (hsp : sp md 75 = none) (hl : args.length = 2)
    (hev : Ev (env sp) (evalCall (env sp) k) md 75 c75 (⟨params 0 args .nil, ⟨.nil, 0⟩, 22⟩, H) fun ex s => ex.leaves = true ∧ ∃ vs, results (env sp) s.1.tm s.1.lv s.2 [.tmp 4] = some vs ∧ Post (packA vs) s.2) :
    ∃ r, evalCall (env sp) (k + 1) md 75 args H = some r ∧ Post r.1 r.2 :=
  call_ev hsp Tryz.func75 body75 res75 (by rw [hl]; decide) (by rw [hl]; kernel_rfl) (frz_75 sp md) (frzIn_75 sp) hev

theorem res76 : Tryz.f76.results.toList = [.cell 2 29] := by kernel_rfl
theorem enter76 {sp} {md : Bool} {k : Nat} {args : List AVal} {H : Hp} {Post : AVal → Hp → Prop} (hsp : sp md 76 = none) (hl : args.length = 1)
    (hev : Ev (env sp) (evalCall (env sp) k) md 76 c76 (⟨params 0 args .nil, ⟨.nil, 0⟩, 8⟩, H) fun ex s => ex.leaves = true ∧ ∃ vs, results (env sp) s.1.tm s.1.lv s.2 [.cell 2 29] = some vs ∧ Post (packA vs) s.2) :
    ∃ r, evalCall (env sp) (k + 1) md 76 args H = some r ∧ Post r.1 r.2 :=
  call_ev hsp Tryz.func76 body76 res76 (by rw [hl]; decide) (by rw [hl]; kernel_rfl) (frz_76 sp md) (frzIn_76 sp) hev

theorem res3 : Tryz.f3.results.toList = [.tmp 4] := by kernel_rfl
theorem enter3 {sp} {md : Bool} {k : Nat} {args : List AVal} {H : Hp} {Post : AVal → Hp → Prop} (hsp : sp md 3 = none) (hl : args.length = 2)
    (hev : Ev (env sp) (evalCall (env sp) k) md 3 c3 (⟨params 0 args .nil, ⟨.nil, 0⟩, 77⟩, H) fun ex s => ex.leaves = true ∧ ∃ vs, results (env sp) s.1.tm s.1.lv s.2 [.tmp 4] = some vs ∧ Post (packA vs) s.2) :
    ∃ r, evalCall (env sp) (k + 1) md 3 args H = some r ∧ Post r.1 r.2 :=
  call_ev hsp Tryz.func3 body3 res3 (by rw [hl]; decide) (by rw [hl]; kernel_rfl) (frz_3 sp md) (frzIn_3 sp) hev

theorem res4 : Tryz.f4.results.toList = [.tmp 6] := by kernel_rfl
theorem enter4 {sp} {md : Bool} {k : Nat} {args : List AVal} {H : Hp} {Post : AVal → Hp → Prop} (hsp : sp md 4 = none) (hl : args.length = 3)
    (hev : Ev (env sp) (evalCall (env sp) k) md 4 c4 (⟨params 0 args .nil, ⟨.nil, 0⟩, 73⟩, H) fun ex s => ex.leaves = true ∧ ∃ vs, results (env sp) s.1.tm s.1.lv s.2 [.tmp 6] = some vs ∧ Post (packA vs) s.2) :
    ∃ r, evalCall (env sp) (k + 1) md 4 args H = some r ∧ Post r.1 r.2 :=
  call_ev hsp Tryz.func4 body4 res4 (by rw [hl]; decide) (by rw [hl]; kernel_rfl) (frz_4 sp md) (frzIn_4 sp) hev

theorem res5 : Tryz.f5.results.toList = [.tmp 4] := by kernel_rfl
theorem enter5 {sp} {md : Bool} {k : Nat} {args : List AVal} {H : Hp} {Post : AVal → Hp → Prop} (hsp : sp md 5 = none) (hl : args.length = 2)
    (hev : Ev (env sp) (evalCall (env sp) k) md 5 c5 (⟨params 0 args .nil, ⟨.nil, 0⟩, 68⟩, H) fun ex s => ex.leaves = true ∧ ∃ vs, results (env sp) s.1.tm s.1.lv s.2 [.tmp 4] = some vs ∧ Post (packA vs) s.2) :
    ∃ r, evalCall (env sp) (k + 1) md 5 args H = some r ∧ Post r.1 r.2 :=
  call_ev hsp Tryz.func5 body5 res5 (by rw [hl]; decide) (by rw [hl]; kernel_rfl) (frz_5 sp md) (frzIn_5 sp) hev

end Go.Rs.Seat
end
/- Lemmas bound together. MADE BY PROGRAM (mksyb.py). -/
section
namespace Go.Rs.Seat
set_option linter.defProp false
open Go.Proofs

def syT := And.intro (And.intro (And.intro (And.intro (And.intro (And.intro (And.intro (@regionA_text) (@List.reverse_cons.{0})) (And.intro (@List.reverse_nil.{0}) (@actA_eq))) (And.intro (And.intro (@callRes_bool) (@callRes_int)) (And.intro (@callRes_str) (And.intro (@callRes_list) (@callRes_nil))))) (And.intro (And.intro (And.intro (@callRes_one) (@callRes_agg)) (And.intro (@callRes_tuple) (@al1))) (And.intro (And.intro (@alN) (@stN)) (And.intro (@ro_bool) (And.intro (@ro_int) (@ro_str)))))) (And.intro (And.intro (And.intro (And.intro (@ro_list) (@ro_nilslice)) (And.intro (@ro_agg) (@ro_tuple))) (And.intro (And.intro (@ro_ptr) (@ro_lptr)) (And.intro (@ro_eptr) (And.intro (@ro_sl) (@ro_map))))) (And.intro (And.intro (And.intro (@ro_func) (@ro_nilptr)) (And.intro (@ro_one) (And.intro (@ro_undef) (@bb_ft)))) (And.intro (And.intro (@bb_tf) (@bb_tt)) (And.intro (@bb_ff) (And.intro (@oc_bool) (@oc_int))))))) (And.intro (And.intro (And.intro (And.intro (And.intro (@oc_str) (@oc_nilptr)) (And.intro (@oc_ptr) (@oc_nilslice))) (And.intro (And.intro (@oc_list) (@oc_sl)) (And.intro (@oc_map) (And.intro (@oc_func) (@ha_bool))))) (And.intro (And.intro (And.intro (@ha_int) (@ha_str)) (And.intro (@ha_nilptr) (@ha_ptr))) (And.intro (And.intro (@ha_nilslice) (@ha_list)) (And.intro (@ha_sl) (And.intro (@ha_map) (@ha_func)))))) (And.intro (And.intro (And.intro (And.intro (@ha_agg) (@ha_tuple)) (And.intro (@ha_lptr) (@ha_eptr))) (And.intro (And.intro (@ha_one) (@ce_int)) (And.intro (@ce_str) (And.intro (@ce_bool) (@ce_nilslice))))) (And.intro (And.intro (And.intro (@ce_list) (@ce_ptr)) (And.intro (@ce_one) (And.intro (@ce_agg) (@st_agg)))) (And.intro (And.intro (@st_list) (@st_int)) (And.intro (@st_str) (And.intro (@st_bool) (@st_nilslice)))))))) (And.intro (And.intro (And.intro (And.intro (And.intro (And.intro (@tget) (@tnil)) (And.intro (@lget) (@lpush))) (And.intro (And.intro (@lnil) (@lnext)) (And.intro (@Lv.next_set) (And.intro (@Lv.next_push) (@env_fn))))) (And.intro (And.intro (And.intro (@env_spec) (@List.length_map.{0,0})) (And.intro (@Int.toNat_natCast) (@nc0))) (And.intro (And.intro (@nc1) (@nc2)) (And.intro (@nc3) (And.intro (@nc4) (@Int.toNat_zero)))))) (And.intro (And.intro (And.intro (And.intro (@Nat.lt_irrefl) (@Option.bind_eq_bind.{0})) (And.intro (@Option.pure_def.{0}) (@Option.bind_some.{0,0}))) (And.intro (And.intro (@Option.bind_none.{0,0}) (@List.map_cons.{0,0})) (And.intro (@List.map_nil.{0,0}) (And.intro (@List.append_nil.{0}) (@List.nil_append.{0}))))) (And.intro (And.intro (And.intro (@List.cons_append.{0}) (@List.toList_toArray.{0})) (And.intro (@List.headD_cons.{0}) (And.intro (@List.getElem?_cons_zero.{0}) (@List.getElem?_cons_succ.{0})))) (And.intro (And.intro (@List.getElem?_nil.{0}) (@List.set_cons_zero.{0})) (And.intro (@List.set_cons_succ.{0}) (And.intro (@List.take_succ_cons.{0}) (@List.take_zero.{0}))))))) (And.intro (And.intro (And.intro (And.intro (And.intro (@List.drop_succ_cons.{0}) (@List.drop_zero.{0})) (And.intro (@Nat.le_refl) (@Nat.zero_add))) (And.intro (And.intro (@Nat.one_mul) (@Nat.max_def)) (And.intro (@if_true.{1}) (And.intro (@if_false.{1}) (@and_self))))) (And.intro (And.intro (And.intro (@and_true) (@true_and)) (And.intro (@Bool.and_true) (And.intro (@Bool.true_and) (@Bool.and_false)))) (And.intro (And.intro (@Bool.false_and) (@Bool.or_true)) (And.intro (@Bool.true_or) (And.intro (@Bool.or_false) (@Bool.false_or)))))) (And.intro (And.intro (And.intro (And.intro (@Bool.and_self) (@Bool.not_true)) (And.intro (@Bool.not_false) (@Bool.false_eq_true))) (And.intro (And.intro (@Bool.true_eq_false) (@decide_true)) (And.intro (@decide_false) (And.intro (@beq_self_eq_true.{0}) (@beq_iff_eq.{0}))))) (And.intro (And.intro (And.intro (@Option.isNone_some.{0}) (@Option.isNone_none.{0})) (And.intro (@Option.isSome_some.{0}) (And.intro (@Option.isSome_none.{0}) (@not_true_eq_false)))) (And.intro (And.intro (@not_false_eq_true) (@List.size_toArray.{0})) (And.intro (@bne_self_eq_false.{0}) (And.intro (@Option.some.injEq.{0}) (@exists_eq_left'.{1}))))))))
def tyT := And.intro (And.intro (And.intro (And.intro (@ty3) (And.intro (@ty4) (@ty9))) (And.intro (@ty20) (And.intro (@ty22) (@ty25)))) (And.intro (And.intro (@ty27) (And.intro (@ty29) (@ty31))) (And.intro (And.intro (@ty33) (@ty36)) (And.intro (@ty38) (@ty39))))) (And.intro (And.intro (And.intro (@ty41) (And.intro (@ty43) (@ty46))) (And.intro (@ty49) (And.intro (@ty52) (@ty54)))) (And.intro (And.intro (@ty98) (And.intro (@ty105) (@ty106))) (And.intro (And.intro (@ty109) (@ty113)) (And.intro (@ty207) (@ty209)))))
def fT3 := And.intro (And.intro (@loc_3) (And.intro (@wr_3) (@frz_3))) (And.intro (@frzIn_3) (And.intro (@up_3) (@ask_3)))
def fT4 := And.intro (And.intro (@loc_4) (And.intro (@wr_4) (@frz_4))) (And.intro (@frzIn_4) (And.intro (@up_4) (@ask_4)))
def fT5 := And.intro (And.intro (@loc_5) (And.intro (@wr_5) (@frz_5))) (And.intro (@frzIn_5) (And.intro (@up_5) (@ask_5)))
def fT7 := And.intro (And.intro (@loc_7) (And.intro (@wr_7) (@frz_7))) (And.intro (@frzIn_7) (And.intro (@up_7) (@ask_7)))
def fT8 := And.intro (And.intro (@loc_8) (And.intro (@wr_8) (@frz_8))) (And.intro (@frzIn_8) (And.intro (@up_8) (@ask_8)))
def fT9 := And.intro (And.intro (@loc_9) (And.intro (@wr_9) (@frz_9))) (And.intro (@frzIn_9) (And.intro (@up_9) (@ask_9)))
def fT10 := And.intro (And.intro (@loc_10) (And.intro (@wr_10) (@frz_10))) (And.intro (@frzIn_10) (And.intro (@up_10) (@ask_10)))
def fT11 := And.intro (And.intro (@loc_11) (And.intro (@wr_11) (@frz_11))) (And.intro (@frzIn_11) (And.intro (@up_11) (@ask_11)))
def fT12 := And.intro (And.intro (@loc_12) (And.intro (@wr_12) (@frz_12))) (And.intro (@frzIn_12) (And.intro (@up_12) (@ask_12)))
def fT13 := And.intro (And.intro (@loc_13) (And.intro (@wr_13) (@frz_13))) (And.intro (@frzIn_13) (And.intro (@up_13) (@ask_13)))
def fT14 := And.intro (And.intro (@loc_14) (And.intro (@wr_14) (@frz_14))) (And.intro (@frzIn_14) (And.intro (@up_14) (@ask_14)))
def fT15 := And.intro (And.intro (@loc_15) (And.intro (@wr_15) (@frz_15))) (And.intro (@frzIn_15) (And.intro (@up_15) (@ask_15)))
def fT16 := And.intro (And.intro (@loc_16) (And.intro (@wr_16) (@frz_16))) (And.intro (@frzIn_16) (And.intro (@up_16) (@ask_16)))
def fT17 := And.intro (And.intro (@loc_17) (And.intro (@wr_17) (@frz_17))) (And.intro (@frzIn_17) (And.intro (@up_17) (@ask_17)))
def fT18 := And.intro (And.intro (@loc_18) (And.intro (@wr_18) (@frz_18))) (And.intro (@frzIn_18) (And.intro (@up_18) (@ask_18)))
def fT25 := And.intro (And.intro (@loc_25) (And.intro (@wr_25) (@frz_25))) (And.intro (@frzIn_25) (And.intro (@up_25) (@ask_25)))
def fT26 := And.intro (And.intro (@loc_26) (And.intro (@wr_26) (@frz_26))) (And.intro (@frzIn_26) (And.intro (@up_26) (@ask_26)))
def fT27 := And.intro (And.intro (@loc_27) (And.intro (@wr_27) (@frz_27))) (And.intro (@frzIn_27) (And.intro (@up_27) (@ask_27)))
def fT28 := And.intro (And.intro (@loc_28) (And.intro (@wr_28) (@frz_28))) (And.intro (@frzIn_28) (And.intro (@up_28) (@ask_28)))
def fT29 := And.intro (And.intro (@loc_29) (And.intro (@wr_29) (@frz_29))) (And.intro (@frzIn_29) (And.intro (@up_29) (@ask_29)))
def fT30 := And.intro (And.intro (@loc_30) (And.intro (@wr_30) (@frz_30))) (And.intro (@frzIn_30) (And.intro (@up_30) (@ask_30)))
def fT31 := And.intro (And.intro (@loc_31) (And.intro (@wr_31) (@frz_31))) (And.intro (@frzIn_31) (And.intro (@up_31) (@ask_31)))
def fT32 := And.intro (And.intro (@loc_32) (And.intro (@wr_32) (@frz_32))) (And.intro (@frzIn_32) (And.intro (@up_32) (@ask_32)))
def fT47 := And.intro (And.intro (@loc_47) (And.intro (@wr_47) (@frz_47))) (And.intro (@frzIn_47) (And.intro (@up_47) (@ask_47)))
def fT48 := And.intro (And.intro (@loc_48) (And.intro (@wr_48) (@frz_48))) (And.intro (@frzIn_48) (And.intro (@up_48) (@ask_48)))
def fT49 := And.intro (And.intro (@loc_49) (And.intro (@wr_49) (@frz_49))) (And.intro (@frzIn_49) (And.intro (@up_49) (@ask_49)))
def fT50 := And.intro (And.intro (@loc_50) (And.intro (@wr_50) (@frz_50))) (And.intro (@frzIn_50) (And.intro (@up_50) (@ask_50)))
def fT51 := And.intro (And.intro (@loc_51) (And.intro (@wr_51) (@frz_51))) (And.intro (@frzIn_51) (And.intro (@up_51) (@ask_51)))
def fT52 := And.intro (And.intro (@loc_52) (And.intro (@wr_52) (@frz_52))) (And.intro (@frzIn_52) (And.intro (@up_52) (@ask_52)))
def fT53 := And.intro (And.intro (@loc_53) (And.intro (@wr_53) (@frz_53))) (And.intro (@frzIn_53) (And.intro (@up_53) (@ask_53)))
def fT74 := And.intro (And.intro (@loc_74) (And.intro (@wr_74) (@frz_74))) (And.intro (@frzIn_74) (And.intro (@up_74) (@ask_74)))
def fT75 := And.intro (And.intro (@loc_75) (And.intro (@wr_75) (@frz_75))) (And.intro (@frzIn_75) (And.intro (@up_75) (@ask_75)))
def fT76 := And.intro (And.intro (@loc_76) (And.intro (@wr_76) (@frz_76))) (And.intro (@frzIn_76) (And.intro (@up_76) (@ask_76)))
end Go.Rs.Seat
end
/- Package arms: patterns and values. -/
section
namespace Go.Rs.Seat
open Go.Proofs
set_option maxRecDepth 100000
set_option maxHeartbeats 4000000

/-- a pattern, a value -/
inductive Nd where
  | mk (k n : Int) (s : ByteArray) (l : List Nd)

def Nd.k : Nd → Int | .mk k _ _ _ => k
def Nd.n : Nd → Int | .mk _ n _ _ => n
def Nd.s : Nd → ByteArray | .mk _ _ s _ => s
def Nd.l : Nd → List Nd | .mk _ _ _ l => l

def strB (a b : ByteArray) : Bool := a.data.toList == b.data.toList

/-- a literal pattern's answer -/
def litB (p v : Nd) : Bool :=
  if p.k == 3 then v.k == 2 && v.n == p.n
  else if p.k == 4 then v.k == 3 && v.n == p.n
  else if p.k == 5 then v.k == 4 && strB v.s p.s
  else false

section
variable {sp : Bool → FuncId → Option (List AVal → Hp → Option (AVal × Hp))}

theorem lit31 (md : Bool) (k : Nat) (h31 : sp md 31 = none) (pk pn vk vn : Int) (ps vs : ByteArray) (pa va : AVal) (hpa : pa.oneCell = true) (hva : va.oneCell = true) (H : Hp) (la lb : List Nd) :
    evalCall (env sp) (k + 1) md 31 [.agg [.int .i64 pk, .int .i64 pn, .str ps, pa], .agg [.int .i64 vk, .int .i64 vn, .str vs, va]] H = some (.bool (litB (.mk pk pn ps la) (.mk vk vn vs lb)), H) := by
  rw [evalCall]
  simp only [litB, Nd.k, Nd.n, Nd.s, strB]
  rcases bool_split (pk == 3) with h1 | h1
  · rcases bool_split (vk == 2) with h2 | h2 <;> simp only [h31, Tryz.func31, Tryz.f31, hpa, hva, h1, h2, evalCode, runOps, runD, runDraw, askOf, askRecs, askAll, isEff, muteOp, stepA, wantedA, isCall, target, evalOp, opMove, opPick, opAlloc, opBox, opBuild, opBuildSlice, opLoad, opStore, opNilCheck, opBinOp, opUnOp, opConvert, opMakeFunc, opMakeMap, opSlice, opFieldAddr, opField, opIndexAddr, opLookup, opExtract, opAppendB, opLenB, wrOf, appendA, appended, elemsOf, newA, eqlA, keepA, newV, evT, toA, putA, loadA, storeA, takeCells, setCells, isAgg, binA, unA, convA, arith, addOff, dstLen, nilNil, isConst, sameTy, strOp, params, results, packA, AExit.leaves, maxTmp, memN, askIn, fillA, repl, groups, Option.getD, Option.map, List.length, List.all, Int.reduceBEq, Int.reduceBNe, Int.reduceEq, Int.reduceGT, Int.reduceGE, Int.reduceNeg, Int.reduceAdd, Int.reduceSub, Int.reduceLT, Int.reduceLE, Int.reduceToNat, Nat.reduceLT, Nat.reducePow, Nat.reduceAdd, Nat.reduceMul, Nat.reduceLeDiff, Nat.reduceEqDiff, Nat.reduceBEq, reduceIte, ↓reduceIte, reduceCtorEq, syT, tyT, Rg.regF, Rg.findR, pickOps, fT31, Tryz.f31]
  · rcases bool_split (pk == 4) with h3 | h3
    · rcases bool_split (vk == 3) with h2 | h2 <;> simp only [h31, Tryz.func31, Tryz.f31, hpa, hva, h1, h2, h3, evalCode, runOps, runD, runDraw, askOf, askRecs, askAll, isEff, muteOp, stepA, wantedA, isCall, target, evalOp, opMove, opPick, opAlloc, opBox, opBuild, opBuildSlice, opLoad, opStore, opNilCheck, opBinOp, opUnOp, opConvert, opMakeFunc, opMakeMap, opSlice, opFieldAddr, opField, opIndexAddr, opLookup, opExtract, opAppendB, opLenB, wrOf, appendA, appended, elemsOf, newA, eqlA, keepA, newV, evT, toA, putA, loadA, storeA, takeCells, setCells, isAgg, binA, unA, convA, arith, addOff, dstLen, nilNil, isConst, sameTy, strOp, params, results, packA, AExit.leaves, maxTmp, memN, askIn, fillA, repl, groups, Option.getD, Option.map, List.length, List.all, Int.reduceBEq, Int.reduceBNe, Int.reduceEq, Int.reduceGT, Int.reduceGE, Int.reduceNeg, Int.reduceAdd, Int.reduceSub, Int.reduceLT, Int.reduceLE, Int.reduceToNat, Nat.reduceLT, Nat.reducePow, Nat.reduceAdd, Nat.reduceMul, Nat.reduceLeDiff, Nat.reduceEqDiff, Nat.reduceBEq, reduceIte, ↓reduceIte, reduceCtorEq, syT, tyT, Rg.regF, Rg.findR, pickOps, fT31, Tryz.f31]
    · rcases bool_split (pk == 5) with h4 | h4
      · rcases bool_split (vk == 4) with h2 | h2 <;> simp only [h31, Tryz.func31, Tryz.f31, hpa, hva, h1, h2, h3, h4, evalCode, runOps, runD, runDraw, askOf, askRecs, askAll, isEff, muteOp, stepA, wantedA, isCall, target, evalOp, opMove, opPick, opAlloc, opBox, opBuild, opBuildSlice, opLoad, opStore, opNilCheck, opBinOp, opUnOp, opConvert, opMakeFunc, opMakeMap, opSlice, opFieldAddr, opField, opIndexAddr, opLookup, opExtract, opAppendB, opLenB, wrOf, appendA, appended, elemsOf, newA, eqlA, keepA, newV, evT, toA, putA, loadA, storeA, takeCells, setCells, isAgg, binA, unA, convA, arith, addOff, dstLen, nilNil, isConst, sameTy, strOp, params, results, packA, AExit.leaves, maxTmp, memN, askIn, fillA, repl, groups, Option.getD, Option.map, List.length, List.all, Int.reduceBEq, Int.reduceBNe, Int.reduceEq, Int.reduceGT, Int.reduceGE, Int.reduceNeg, Int.reduceAdd, Int.reduceSub, Int.reduceLT, Int.reduceLE, Int.reduceToNat, Nat.reduceLT, Nat.reducePow, Nat.reduceAdd, Nat.reduceMul, Nat.reduceLeDiff, Nat.reduceEqDiff, Nat.reduceBEq, reduceIte, ↓reduceIte, reduceCtorEq, syT, tyT, Rg.regF, Rg.findR, pickOps, fT31, Tryz.f31]
      · simp only [h31, Tryz.func31, Tryz.f31, hpa, hva, h1, h3, h4, evalCode, runOps, runD, runDraw, askOf, askRecs, askAll, isEff, muteOp, stepA, wantedA, isCall, target, evalOp, opMove, opPick, opAlloc, opBox, opBuild, opBuildSlice, opLoad, opStore, opNilCheck, opBinOp, opUnOp, opConvert, opMakeFunc, opMakeMap, opSlice, opFieldAddr, opField, opIndexAddr, opLookup, opExtract, opAppendB, opLenB, wrOf, appendA, appended, elemsOf, newA, eqlA, keepA, newV, evT, toA, putA, loadA, storeA, takeCells, setCells, isAgg, binA, unA, convA, arith, addOff, dstLen, nilNil, isConst, sameTy, strOp, params, results, packA, AExit.leaves, maxTmp, memN, askIn, fillA, repl, groups, Option.getD, Option.map, List.length, List.all, Int.reduceBEq, Int.reduceBNe, Int.reduceEq, Int.reduceGT, Int.reduceGE, Int.reduceNeg, Int.reduceAdd, Int.reduceSub, Int.reduceLT, Int.reduceLE, Int.reduceToNat, Nat.reduceLT, Nat.reducePow, Nat.reduceAdd, Nat.reduceMul, Nat.reduceLeDiff, Nat.reduceEqDiff, Nat.reduceBEq, reduceIte, ↓reduceIte, reduceCtorEq, syT, tyT, Rg.regF, Rg.findR, pickOps, fT31, Tryz.f31]
end
end Go.Rs.Seat
end
/- Package arms: slices of numbers. -/
section
namespace Go.Rs.Seat
open Go.Proofs Rg
set_option maxRecDepth 100000
set_option maxHeartbeats 4000000

def ints (l : List Int) : List AVal := l.map (AVal.int .i64)

/-- a slice of numbers -/
def IsI (a : AVal) (l : List Int) : Prop := (a = .nilslice ∧ l = []) ∨ ∃ t, a = .list (ints l) t 1

theorem IsI.one {a l} (h : IsI a l) : a.oneCell = true := by
  rcases h with ⟨rfl, -⟩ | ⟨t, rfl⟩ <;> rfl
theorem IsI.handed {a l} (h : IsI a l) : a.handed = true := ha_one h.one
theorem ints_len (l : List Int) : (ints l).length = l.length := by simp [ints]
theorem IsI.len {a l} (h : IsI a l) : dstLen a = some l.length := by
  rcases h with ⟨rfl, rfl⟩ | ⟨t, rfl⟩
  · rfl
  · simp [dstLen, ints_len]
theorem ints_get {l : List Int} {i : Nat} {x : Int} (h : l[i]? = some x) : (ints l)[i]? = some (.int .i64 x) := by simp [ints, h]
theorem IsI.list {a l} (h : IsI a l) {i : Nat} {x : Int} (hx : l[i]? = some x) : ∃ t, a = .list (ints l) t 1 := by
  rcases h with ⟨rfl, rfl⟩ | h
  · simp at hx
  · exact h

theorem int_neq (a b : Nat) : ((a : Int) != (b : Int)) = decide (a ≠ b) := by
  by_cases h : a = b
  · simp [h]
  · have : ¬ (a : Int) = (b : Int) := by omega
    simp [h, this]

section
variable {sp : Bool → FuncId → Option (List AVal → Hp → Option (AVal × Hp))}

/-! ## slices.Equal -/
def Inv14 (a b : AVal) (n : Nat) (H : Hp) (i : Nat) (st : St) : Prop :=
  st.1.n = 26 ∧ st.2 = H ∧ st.1.tm.get 0 = some a ∧ st.1.tm.get 1 = some b ∧ st.1.tm.get 12 = some (.int .i64 n) ∧ st.1.tm.get 13 = some (.int .i64 i)

theorem eq14_step {call : CallF} {md : Bool} {st : St} {H : Hp} {xs ys : List Int} {ta tb : Tok} {i : Nat} {x y : Int} (h : Inv14 (.list (ints xs) ta 1) (.list (ints ys) tb 1) xs.length H i st) (hx : xs[i]? = some x) (hy : ys[i]? = some y) (hn : xs.length < 2 ^ 62) :
    Ev (env sp) call md 14 b14_0 st fun ex s => if x = y then ex = .normal ∧ Inv14 (.list (ints xs) ta 1) (.list (ints ys) tb 1) xs.length H (i + 1) s else ex = .ret ∧ s.2 = H ∧ s.1.tm.get 4 = some (.bool false) := by
  obtain ⟨hn', hH, h0, h1, h12, h13⟩ := h
  have hi : i < xs.length := (List.getElem?_eq_some_iff.1 hx).1
  have hj : i < ys.length := (List.getElem?_eq_some_iff.1 hy).1
  have hi' : ((i : Int) < (xs.length : Int)) = True := by simp [hi]
  have hj' : ((i : Int) < (ys.length : Int)) = True := by simp [hj]
  have h0' : (0 ≤ (i : Int)) = True := by simp
  have gx := ints_get hx
  have gy := ints_get hy
  have hw : IntKind.i64.wrap ((i : Int) + 1) = ((i + 1 : Nat) : Int) := wrap_nat (by omega)
  by_cases hxy : x = y
  · subst hxy
    simp only [Ev, Inv14, b14_0, o14_4, o14_5, o14_8, ↓drw14_6, d14_6, hn', hH, h0, h1, h12, h13, hi', hj', h0', gx, gy, ints_len, hw, evalCode, runOps, runD, runDraw, askOf, askRecs, askAll, isEff, muteOp, stepA, wantedA, isCall, target, evalOp, opMove, opPick, opAlloc, opBox, opBuild, opBuildSlice, opLoad, opStore, opNilCheck, opBinOp, opUnOp, opConvert, opMakeFunc, opMakeMap, opSlice, opFieldAddr, opField, opIndexAddr, opLookup, opExtract, opAppendB, opLenB, wrOf, appendA, appended, elemsOf, newA, eqlA, keepA, newV, evT, toA, putA, loadA, storeA, takeCells, setCells, isAgg, binA, unA, convA, arith, addOff, dstLen, nilNil, isConst, sameTy, strOp, params, results, packA, AExit.leaves, maxTmp, memN, askIn, fillA, repl, groups, Option.getD, Option.map, List.length, List.all, Int.reduceBEq, Int.reduceBNe, Int.reduceEq, Int.reduceGT, Int.reduceGE, Int.reduceNeg, Int.reduceAdd, Int.reduceSub, Int.reduceLT, Int.reduceLE, Int.reduceToNat, Nat.reduceLT, Nat.reducePow, Nat.reduceAdd, Nat.reduceMul, Nat.reduceLeDiff, Nat.reduceEqDiff, Nat.reduceBEq, reduceIte, ↓reduceIte, reduceCtorEq, syT, tyT, Rg.regF, Rg.findR, pickOps, fT14, Tryz.f14]
  · have hne : (x != y) = true := by simp [hxy]
    simp only [Ev, b14_0, o14_4, o14_5, o14_7, ↓drw14_6, d14_6, hn', hH, h0, h1, h12, h13, hi', hj', h0', gx, gy, hne, ints_len, hxy, evalCode, runOps, runD, runDraw, askOf, askRecs, askAll, isEff, muteOp, stepA, wantedA, isCall, target, evalOp, opMove, opPick, opAlloc, opBox, opBuild, opBuildSlice, opLoad, opStore, opNilCheck, opBinOp, opUnOp, opConvert, opMakeFunc, opMakeMap, opSlice, opFieldAddr, opField, opIndexAddr, opLookup, opExtract, opAppendB, opLenB, wrOf, appendA, appended, elemsOf, newA, eqlA, keepA, newV, evT, toA, putA, loadA, storeA, takeCells, setCells, isAgg, binA, unA, convA, arith, addOff, dstLen, nilNil, isConst, sameTy, strOp, params, results, packA, AExit.leaves, maxTmp, memN, askIn, fillA, repl, groups, Option.getD, Option.map, List.length, List.all, Int.reduceBEq, Int.reduceBNe, Int.reduceEq, Int.reduceGT, Int.reduceGE, Int.reduceNeg, Int.reduceAdd, Int.reduceSub, Int.reduceLT, Int.reduceLE, Int.reduceToNat, Nat.reduceLT, Nat.reducePow, Nat.reduceAdd, Nat.reduceMul, Nat.reduceLeDiff, Nat.reduceEqDiff, Nat.reduceBEq, reduceIte, ↓reduceIte, reduceCtorEq, syT, tyT, Rg.regF, Rg.findR, pickOps, fT14, Tryz.f14]

theorem eq14_end {call : CallF} {md : Bool} {st : St} {H : Hp} {a b : AVal} {n : Nat} (h : Inv14 a b n H n st) :
    Ev (env sp) call md 14 b14_0 st fun ex s => ex = .exit 0 ∧ s.1.n = 26 ∧ s.2 = H := by
  obtain ⟨hn', hH, h0, h1, h12, h13⟩ := h
  have hi' : ((n : Int) < (n : Int)) = False := by simp
  simp only [Ev, b14_0, o14_4, hn', hH, h0, h1, h12, h13, hi', evalCode, runOps, runD, runDraw, askOf, askRecs, askAll, isEff, muteOp, stepA, wantedA, isCall, target, evalOp, opMove, opPick, opAlloc, opBox, opBuild, opBuildSlice, opLoad, opStore, opNilCheck, opBinOp, opUnOp, opConvert, opMakeFunc, opMakeMap, opSlice, opFieldAddr, opField, opIndexAddr, opLookup, opExtract, opAppendB, opLenB, wrOf, appendA, appended, elemsOf, newA, eqlA, keepA, newV, evT, toA, putA, loadA, storeA, takeCells, setCells, isAgg, binA, unA, convA, arith, addOff, dstLen, nilNil, isConst, sameTy, strOp, params, results, packA, AExit.leaves, maxTmp, memN, askIn, fillA, repl, groups, Option.getD, Option.map, List.length, List.all, Int.reduceBEq, Int.reduceBNe, Int.reduceEq, Int.reduceGT, Int.reduceGE, Int.reduceNeg, Int.reduceAdd, Int.reduceSub, Int.reduceLT, Int.reduceLE, Int.reduceToNat, Nat.reduceLT, Nat.reducePow, Nat.reduceAdd, Nat.reduceMul, Nat.reduceLeDiff, Nat.reduceEqDiff, Nat.reduceBEq, reduceIte, ↓reduceIte, reduceCtorEq, syT, tyT, Rg.regF, Rg.findR, pickOps, fT14, Tryz.f14]

theorem eq14 {md : Bool} {k : Nat} {a b : AVal} {xs ys : List Int} {H : Hp} (hsp : sp md 14 = none) (ha : IsI a xs) (hb : IsI b ys) (hn : xs.length < 9000) :
    evalCall (env sp) (k + 1) md 14 [a, b] H = some (.bool (decide (xs = ys)), H) := by
  have hoa := ha.one
  have hob := hb.one
  have hla := ha.len
  have hlb := hb.len
  have key : ∃ r, evalCall (env sp) (k + 1) md 14 [a, b] H = some r ∧ (r.1 = .bool (decide (xs = ys)) ∧ r.2 = H) := by
    refine enter14 (Post := fun v H' => v = .bool (decide (xs = ys)) ∧ H' = H) hsp rfl ?_
    unfold c14
    by_cases hl : xs.length = ys.length
    · refine Ev.seqN (Q := fun s => s.1.n = 26 ∧ s.2 = H ∧ s.1.tm.get 0 = some a ∧ s.1.tm.get 1 = some b) ?_ ?_
      · simp only [Ev, o14_0, hoa, hob, evalCode, runOps, runD, runDraw, askOf, askRecs, askAll, isEff, muteOp, stepA, wantedA, isCall, target, evalOp, opMove, opPick, opAlloc, opBox, opBuild, opBuildSlice, opLoad, opStore, opNilCheck, opBinOp, opUnOp, opConvert, opMakeFunc, opMakeMap, opSlice, opFieldAddr, opField, opIndexAddr, opLookup, opExtract, opAppendB, opLenB, wrOf, appendA, appended, elemsOf, newA, eqlA, keepA, newV, evT, toA, putA, loadA, storeA, takeCells, setCells, isAgg, binA, unA, convA, arith, addOff, dstLen, nilNil, isConst, sameTy, strOp, params, results, packA, AExit.leaves, maxTmp, memN, askIn, fillA, repl, groups, Option.getD, Option.map, List.length, List.all, Int.reduceBEq, Int.reduceBNe, Int.reduceEq, Int.reduceGT, Int.reduceGE, Int.reduceNeg, Int.reduceAdd, Int.reduceSub, Int.reduceLT, Int.reduceLE, Int.reduceToNat, Nat.reduceLT, Nat.reducePow, Nat.reduceAdd, Nat.reduceMul, Nat.reduceLeDiff, Nat.reduceEqDiff, Nat.reduceBEq, reduceIte, ↓reduceIte, reduceCtorEq, syT, tyT, Rg.regF, Rg.findR, pickOps, fT14, Tryz.f14]
      rintro s ⟨hn', hH, h0, h1⟩
      refine Ev.seqN (Q := fun s => s.1.n = 26 ∧ s.2 = H ∧ s.1.tm.get 0 = some a ∧ s.1.tm.get 1 = some b) ?_ ?_
      · have hne : ((xs.length : Int) != (ys.length : Int)) = false := by simp [hl]
        simp only [Ev, o14_1, hn', hH, h0, h1, hoa, hob, ha_one, ↓hla, ↓hlb, hne, evalCode, runOps, runD, runDraw, askOf, askRecs, askAll, isEff, muteOp, stepA, wantedA, isCall, target, evalOp, opMove, opPick, opAlloc, opBox, opBuild, opBuildSlice, opLoad, opStore, opNilCheck, opBinOp, opUnOp, opConvert, opMakeFunc, opMakeMap, opSlice, opFieldAddr, opField, opIndexAddr, opLookup, opExtract, opAppendB, opLenB, wrOf, appendA, appended, elemsOf, newA, eqlA, keepA, newV, evT, toA, putA, loadA, storeA, takeCells, setCells, isAgg, binA, unA, convA, arith, addOff, dstLen, nilNil, isConst, sameTy, strOp, params, results, packA, AExit.leaves, maxTmp, memN, askIn, fillA, repl, groups, Option.getD, Option.map, List.length, List.all, Int.reduceBEq, Int.reduceBNe, Int.reduceEq, Int.reduceGT, Int.reduceGE, Int.reduceNeg, Int.reduceAdd, Int.reduceSub, Int.reduceLT, Int.reduceLE, Int.reduceToNat, Nat.reduceLT, Nat.reducePow, Nat.reduceAdd, Nat.reduceMul, Nat.reduceLeDiff, Nat.reduceEqDiff, Nat.reduceBEq, reduceIte, ↓reduceIte, reduceCtorEq, syT, tyT, Rg.regF, Rg.findR, pickOps, fT14, Tryz.f14]
      rintro s ⟨hn', hH, h0, h1⟩
      refine Ev.seq (Q := fun ex s => (ex = .normal ∧ s.1.n = 26 ∧ s.2 = H ∧ xs = ys) ∨ (ex = .ret ∧ s.2 = H ∧ s.1.tm.get 4 = some (.bool false) ∧ xs ≠ ys)) ?_ ?_ ?_
      · refine Ev.seqN (Q := fun s => Inv14 a b xs.length H 0 s) ?_ ?_
        · simp only [Ev, Inv14, o14_3, hn', hH, h0, h1, hoa, hob, ha_one, ↓hla, ↓hlb, evalCode, runOps, runD, runDraw, askOf, askRecs, askAll, isEff, muteOp, stepA, wantedA, isCall, target, evalOp, opMove, opPick, opAlloc, opBox, opBuild, opBuildSlice, opLoad, opStore, opNilCheck, opBinOp, opUnOp, opConvert, opMakeFunc, opMakeMap, opSlice, opFieldAddr, opField, opIndexAddr, opLookup, opExtract, opAppendB, opLenB, wrOf, appendA, appended, elemsOf, newA, eqlA, keepA, newV, evT, toA, putA, loadA, storeA, takeCells, setCells, isAgg, binA, unA, convA, arith, addOff, dstLen, nilNil, isConst, sameTy, strOp, params, results, packA, AExit.leaves, maxTmp, memN, askIn, fillA, repl, groups, Option.getD, Option.map, List.length, List.all, Int.reduceBEq, Int.reduceBNe, Int.reduceEq, Int.reduceGT, Int.reduceGE, Int.reduceNeg, Int.reduceAdd, Int.reduceSub, Int.reduceLT, Int.reduceLE, Int.reduceToNat, Nat.reduceLT, Nat.reducePow, Nat.reduceAdd, Nat.reduceMul, Nat.reduceLeDiff, Nat.reduceEqDiff, Nat.reduceBEq, reduceIte, ↓reduceIte, reduceCtorEq, syT, tyT, Rg.regF, Rg.findR, pickOps, fT14, Tryz.f14]
        intro s hs
        refine Ev.block (Ev.loop (Inv := fun i s => Inv14 a b xs.length H i s ∧ ∀ j < i, xs[j]? = ys[j]?) xs.length hn ⟨hs, by simp⟩ fun i st hi hle => ?_)
        obtain ⟨hi, hpre⟩ := hi
        by_cases hlt : i < xs.length
        · obtain ⟨x, hx⟩ : ∃ x, xs[i]? = some x := ⟨_, List.getElem?_eq_getElem hlt⟩
          obtain ⟨y, hy⟩ : ∃ y, ys[i]? = some y := ⟨_, List.getElem?_eq_getElem (by omega)⟩
          obtain ⟨ta, rfl⟩ := ha.list hx
          obtain ⟨tb, rfl⟩ := hb.list hy
          refine (eq14_step hi hx hy (by omega)).mono fun ex s hs => ?_
          by_cases hxy : x = y
          · rw [if_pos hxy] at hs
            refine .inl ⟨hs.1, hlt, hs.2, fun j hj => ?_⟩
            rcases Nat.lt_succ_iff_lt_or_eq.1 hj with h | h
            · exact hpre j h
            · rw [h, hx, hy, hxy]
          · rw [if_neg hxy] at hs
            refine .inr ⟨by rw [hs.1]; simp, .inr ⟨by rw [hs.1]; rfl, hs.2.1, hs.2.2, fun he => hxy ?_⟩⟩
            rw [he, hy] at hx
            simpa using hx.symm
        · have : i = xs.length := by omega
          subst this
          refine (eq14_end hi).mono fun ex s hs => .inr ⟨by rw [hs.1]; simp, .inl ⟨by rw [hs.1]; rfl, hs.2.1, hs.2.2, ?_⟩⟩
          apply List.ext_getElem? fun j => ?_
          by_cases hj : j < xs.length
          · exact hpre j hj
          · rw [List.getElem?_eq_none (by omega), List.getElem?_eq_none (by omega)]
      · rintro s (⟨-, hn', hH, heq⟩ | ⟨h, -⟩)
        · have hd : decide (xs = ys) = true := by simp [heq]
          simp only [Ev, o14_9, hn', hH, hd, evalCode, runOps, runD, runDraw, askOf, askRecs, askAll, isEff, muteOp, stepA, wantedA, isCall, target, evalOp, opMove, opPick, opAlloc, opBox, opBuild, opBuildSlice, opLoad, opStore, opNilCheck, opBinOp, opUnOp, opConvert, opMakeFunc, opMakeMap, opSlice, opFieldAddr, opField, opIndexAddr, opLookup, opExtract, opAppendB, opLenB, wrOf, appendA, appended, elemsOf, newA, eqlA, keepA, newV, evT, toA, putA, loadA, storeA, takeCells, setCells, isAgg, binA, unA, convA, arith, addOff, dstLen, nilNil, isConst, sameTy, strOp, params, results, packA, AExit.leaves, maxTmp, memN, askIn, fillA, repl, groups, Option.getD, Option.map, List.length, List.all, Int.reduceBEq, Int.reduceBNe, Int.reduceEq, Int.reduceGT, Int.reduceGE, Int.reduceNeg, Int.reduceAdd, Int.reduceSub, Int.reduceLT, Int.reduceLE, Int.reduceToNat, Nat.reduceLT, Nat.reducePow, Nat.reduceAdd, Nat.reduceMul, Nat.reduceLeDiff, Nat.reduceEqDiff, Nat.reduceBEq, reduceIte, ↓reduceIte, reduceCtorEq, syT, tyT, Rg.regF, Rg.findR, pickOps, fT14, Tryz.f14]
        · cases h
      · rintro ex s hne (⟨h, -⟩ | ⟨rfl, hH, h4, hne⟩)
        · exact absurd h hne
        · have hd : decide (xs = ys) = false := by simp [hne]
          simp only [hH, hd, h4, evalCode, runOps, runD, runDraw, askOf, askRecs, askAll, isEff, muteOp, stepA, wantedA, isCall, target, evalOp, opMove, opPick, opAlloc, opBox, opBuild, opBuildSlice, opLoad, opStore, opNilCheck, opBinOp, opUnOp, opConvert, opMakeFunc, opMakeMap, opSlice, opFieldAddr, opField, opIndexAddr, opLookup, opExtract, opAppendB, opLenB, wrOf, appendA, appended, elemsOf, newA, eqlA, keepA, newV, evT, toA, putA, loadA, storeA, takeCells, setCells, isAgg, binA, unA, convA, arith, addOff, dstLen, nilNil, isConst, sameTy, strOp, params, results, packA, AExit.leaves, maxTmp, memN, askIn, fillA, repl, groups, Option.getD, Option.map, List.length, List.all, Int.reduceBEq, Int.reduceBNe, Int.reduceEq, Int.reduceGT, Int.reduceGE, Int.reduceNeg, Int.reduceAdd, Int.reduceSub, Int.reduceLT, Int.reduceLE, Int.reduceToNat, Nat.reduceLT, Nat.reducePow, Nat.reduceAdd, Nat.reduceMul, Nat.reduceLeDiff, Nat.reduceEqDiff, Nat.reduceBEq, reduceIte, ↓reduceIte, reduceCtorEq, syT, tyT, Rg.regF, Rg.findR, pickOps, fT14, Tryz.f14]
    · have hd : decide (xs = ys) = false := by
        simp only [decide_eq_false_iff_not]; intro h; exact hl (by rw [h])
      have hne : ((xs.length : Int) != (ys.length : Int)) = true := by simp; omega
      simp only [Ev, o14_0, o14_1, o14_2, hoa, hob, ha_one, ↓hla, ↓hlb, hne, hd, evalCode, runOps, runD, runDraw, askOf, askRecs, askAll, isEff, muteOp, stepA, wantedA, isCall, target, evalOp, opMove, opPick, opAlloc, opBox, opBuild, opBuildSlice, opLoad, opStore, opNilCheck, opBinOp, opUnOp, opConvert, opMakeFunc, opMakeMap, opSlice, opFieldAddr, opField, opIndexAddr, opLookup, opExtract, opAppendB, opLenB, wrOf, appendA, appended, elemsOf, newA, eqlA, keepA, newV, evT, toA, putA, loadA, storeA, takeCells, setCells, isAgg, binA, unA, convA, arith, addOff, dstLen, nilNil, isConst, sameTy, strOp, params, results, packA, AExit.leaves, maxTmp, memN, askIn, fillA, repl, groups, Option.getD, Option.map, List.length, List.all, Int.reduceBEq, Int.reduceBNe, Int.reduceEq, Int.reduceGT, Int.reduceGE, Int.reduceNeg, Int.reduceAdd, Int.reduceSub, Int.reduceLT, Int.reduceLE, Int.reduceToNat, Nat.reduceLT, Nat.reducePow, Nat.reduceAdd, Nat.reduceMul, Nat.reduceLeDiff, Nat.reduceEqDiff, Nat.reduceBEq, reduceIte, ↓reduceIte, reduceCtorEq, syT, tyT, Rg.regF, Rg.findR, pickOps, fT14, Tryz.f14]
  obtain ⟨⟨v, H'⟩, h1, rfl, rfl⟩ := key
  exact h1

end
end Go.Rs.Seat
end
/- Package arms: tests. -/
section
namespace Go.Rs.Seat
open Go.Proofs Rg
set_option maxRecDepth 100000
set_option maxHeartbeats 4000000

structure Tst where
  path : List Int
  k : Int
  n : Int
  s : ByteArray

/-- a test -/
def IsT (v : AVal) (t : Tst) : Prop := ∃ a, v = .agg [a, .int .i64 t.k, .int .i64 t.n, .str t.s, .nilslice] ∧ IsI a t.path

def sameT (t u : Tst) : Bool := decide (t.path = u.path) && (t.k == u.k) && (t.n == u.n) && strB t.s u.s

section
variable {sp : Bool → FuncId → Option (List AVal → Hp → Option (AVal × Hp))}

theorem same49 {md : Bool} {k : Nat} {v w : AVal} {t u : Tst} {H : Hp} (h49 : sp md 49 = none) (h14 : sp md 14 = none) (hv : IsT v t) (hw : IsT w u) (hn : t.path.length < 9000) :
    evalCall (env sp) (k + 2) md 49 [v, w] H = some (.bool (sameT t u), H) := by
  obtain ⟨a, rfl, ha⟩ := hv
  obtain ⟨b, rfl, hb⟩ := hw
  have hoa := ha.one
  have hob := hb.one
  have e14 : evalCall (env sp) (k + 1) md 14 [a, b] H = _ := eq14 h14 ha hb hn
  rw [show k + 2 = (k + 1) + 1 from rfl, evalCall]
  simp only [sameT, strB]
  rcases bool_split (decide (t.path = u.path)) with h1 | h1
  · rw [h1] at e14
    rcases bool_split (t.k == u.k) with h2 | h2
    · rcases bool_split (t.n == u.n) with h3 | h3
      · simp only [h49, Tryz.func49, Tryz.f49, e14, hoa, hob, h1, h2, h3, evalCode, runOps, runD, runDraw, askOf, askRecs, askAll, isEff, muteOp, stepA, wantedA, isCall, target, evalOp, opMove, opPick, opAlloc, opBox, opBuild, opBuildSlice, opLoad, opStore, opNilCheck, opBinOp, opUnOp, opConvert, opMakeFunc, opMakeMap, opSlice, opFieldAddr, opField, opIndexAddr, opLookup, opExtract, opAppendB, opLenB, wrOf, appendA, appended, elemsOf, newA, eqlA, keepA, newV, evT, toA, putA, loadA, storeA, takeCells, setCells, isAgg, binA, unA, convA, arith, addOff, dstLen, nilNil, isConst, sameTy, strOp, params, results, packA, AExit.leaves, maxTmp, memN, askIn, fillA, repl, groups, Option.getD, Option.map, List.length, List.all, Int.reduceBEq, Int.reduceBNe, Int.reduceEq, Int.reduceGT, Int.reduceGE, Int.reduceNeg, Int.reduceAdd, Int.reduceSub, Int.reduceLT, Int.reduceLE, Int.reduceToNat, Nat.reduceLT, Nat.reducePow, Nat.reduceAdd, Nat.reduceMul, Nat.reduceLeDiff, Nat.reduceEqDiff, Nat.reduceBEq, reduceIte, ↓reduceIte, reduceCtorEq, syT, tyT, Rg.regF, Rg.findR, pickOps, fT49, Tryz.f49]
      · simp only [h49, Tryz.func49, Tryz.f49, e14, hoa, hob, h1, h2, h3, evalCode, runOps, runD, runDraw, askOf, askRecs, askAll, isEff, muteOp, stepA, wantedA, isCall, target, evalOp, opMove, opPick, opAlloc, opBox, opBuild, opBuildSlice, opLoad, opStore, opNilCheck, opBinOp, opUnOp, opConvert, opMakeFunc, opMakeMap, opSlice, opFieldAddr, opField, opIndexAddr, opLookup, opExtract, opAppendB, opLenB, wrOf, appendA, appended, elemsOf, newA, eqlA, keepA, newV, evT, toA, putA, loadA, storeA, takeCells, setCells, isAgg, binA, unA, convA, arith, addOff, dstLen, nilNil, isConst, sameTy, strOp, params, results, packA, AExit.leaves, maxTmp, memN, askIn, fillA, repl, groups, Option.getD, Option.map, List.length, List.all, Int.reduceBEq, Int.reduceBNe, Int.reduceEq, Int.reduceGT, Int.reduceGE, Int.reduceNeg, Int.reduceAdd, Int.reduceSub, Int.reduceLT, Int.reduceLE, Int.reduceToNat, Nat.reduceLT, Nat.reducePow, Nat.reduceAdd, Nat.reduceMul, Nat.reduceLeDiff, Nat.reduceEqDiff, Nat.reduceBEq, reduceIte, ↓reduceIte, reduceCtorEq, syT, tyT, Rg.regF, Rg.findR, pickOps, fT49, Tryz.f49]
    · simp only [h49, Tryz.func49, Tryz.f49, e14, hoa, hob, h1, h2, evalCode, runOps, runD, runDraw, askOf, askRecs, askAll, isEff, muteOp, stepA, wantedA, isCall, target, evalOp, opMove, opPick, opAlloc, opBox, opBuild, opBuildSlice, opLoad, opStore, opNilCheck, opBinOp, opUnOp, opConvert, opMakeFunc, opMakeMap, opSlice, opFieldAddr, opField, opIndexAddr, opLookup, opExtract, opAppendB, opLenB, wrOf, appendA, appended, elemsOf, newA, eqlA, keepA, newV, evT, toA, putA, loadA, storeA, takeCells, setCells, isAgg, binA, unA, convA, arith, addOff, dstLen, nilNil, isConst, sameTy, strOp, params, results, packA, AExit.leaves, maxTmp, memN, askIn, fillA, repl, groups, Option.getD, Option.map, List.length, List.all, Int.reduceBEq, Int.reduceBNe, Int.reduceEq, Int.reduceGT, Int.reduceGE, Int.reduceNeg, Int.reduceAdd, Int.reduceSub, Int.reduceLT, Int.reduceLE, Int.reduceToNat, Nat.reduceLT, Nat.reducePow, Nat.reduceAdd, Nat.reduceMul, Nat.reduceLeDiff, Nat.reduceEqDiff, Nat.reduceBEq, reduceIte, ↓reduceIte, reduceCtorEq, syT, tyT, Rg.regF, Rg.findR, pickOps, fT49, Tryz.f49]
  · rw [h1] at e14
    simp only [h49, Tryz.func49, Tryz.f49, e14, hoa, hob, h1, evalCode, runOps, runD, runDraw, askOf, askRecs, askAll, isEff, muteOp, stepA, wantedA, isCall, target, evalOp, opMove, opPick, opAlloc, opBox, opBuild, opBuildSlice, opLoad, opStore, opNilCheck, opBinOp, opUnOp, opConvert, opMakeFunc, opMakeMap, opSlice, opFieldAddr, opField, opIndexAddr, opLookup, opExtract, opAppendB, opLenB, wrOf, appendA, appended, elemsOf, newA, eqlA, keepA, newV, evT, toA, putA, loadA, storeA, takeCells, setCells, isAgg, binA, unA, convA, arith, addOff, dstLen, nilNil, isConst, sameTy, strOp, params, results, packA, AExit.leaves, maxTmp, memN, askIn, fillA, repl, groups, Option.getD, Option.map, List.length, List.all, Int.reduceBEq, Int.reduceBNe, Int.reduceEq, Int.reduceGT, Int.reduceGE, Int.reduceNeg, Int.reduceAdd, Int.reduceSub, Int.reduceLT, Int.reduceLE, Int.reduceToNat, Nat.reduceLT, Nat.reducePow, Nat.reduceAdd, Nat.reduceMul, Nat.reduceLeDiff, Nat.reduceEqDiff, Nat.reduceBEq, reduceIte, ↓reduceIte, reduceCtorEq, syT, tyT, Rg.regF, Rg.findR, pickOps, fT49, Tryz.f49]

theorem clo48 {md : Bool} {k : Nat} {v : AVal} {t u : Tst} {H : Hp} {id : Nat} {cs : List AVal} (h48 : sp md 48 = none) (h49 : sp md 49 = none) (h14 : sp md 14 = none) (hv : IsT v t) (hw : IsT (.agg cs) u) (hn : t.path.length < 9000)
    (hH : H.get id = .cells cs) : evalCall (env sp) (k + 3) md 48 [v, .ptr id 0] H = some (.bool (sameT t u), H) := by
  have e49 : evalCall (env sp) (k + 2) md 49 [v, .agg cs] H = _ := same49 h49 h14 hv hw hn
  obtain ⟨a, rfl, ha⟩ := hv
  obtain ⟨b, he, hb⟩ := hw
  injection he with he
  subst he
  have hoa := ha.one
  have hob := hb.one
  rw [show k + 3 = (k + 2) + 1 from rfl, evalCall]
  simp only [h48, Tryz.func48, Tryz.f48, e49, hoa, hob, hH, evalCode, runOps, runD, runDraw, askOf, askRecs, askAll, isEff, muteOp, stepA, wantedA, isCall, target, evalOp, opMove, opPick, opAlloc, opBox, opBuild, opBuildSlice, opLoad, opStore, opNilCheck, opBinOp, opUnOp, opConvert, opMakeFunc, opMakeMap, opSlice, opFieldAddr, opField, opIndexAddr, opLookup, opExtract, opAppendB, opLenB, wrOf, appendA, appended, elemsOf, newA, eqlA, keepA, newV, evT, toA, putA, loadA, storeA, takeCells, setCells, isAgg, binA, unA, convA, arith, addOff, dstLen, nilNil, isConst, sameTy, strOp, params, results, packA, AExit.leaves, maxTmp, memN, askIn, fillA, repl, groups, Option.getD, Option.map, List.length, List.all, Int.reduceBEq, Int.reduceBNe, Int.reduceEq, Int.reduceGT, Int.reduceGE, Int.reduceNeg, Int.reduceAdd, Int.reduceSub, Int.reduceLT, Int.reduceLE, Int.reduceToNat, Nat.reduceLT, Nat.reducePow, Nat.reduceAdd, Nat.reduceMul, Nat.reduceLeDiff, Nat.reduceEqDiff, Nat.reduceBEq, reduceIte, ↓reduceIte, reduceCtorEq, syT, tyT, Rg.regF, Rg.findR, pickOps, fT48, Tryz.f48]

theorem clo51 {md : Bool} {k : Nat} {v : AVal} {t u : Tst} {H : Hp} {id : Nat} {cs : List AVal} (h51 : sp md 51 = none) (h14 : sp md 14 = none) (hv : IsT v t) (hw : IsT (.agg cs) u) (hn : t.path.length < 9000)
    (hH : H.get id = .cells cs) : evalCall (env sp) (k + 2) md 51 [v, .ptr id 0] H = some (.bool (decide (t.path = u.path)), H) := by
  obtain ⟨a, rfl, ha⟩ := hv
  obtain ⟨b, he, hb⟩ := hw
  injection he with he
  subst he
  have hoa := ha.one
  have hob := hb.one
  have e14 : evalCall (env sp) (k + 1) md 14 [a, b] H = _ := eq14 h14 ha hb hn
  rw [show k + 2 = (k + 1) + 1 from rfl, evalCall]
  simp only [h51, Tryz.func51, Tryz.f51, e14, hoa, hob, hH, evalCode, runOps, runD, runDraw, askOf, askRecs, askAll, isEff, muteOp, stepA, wantedA, isCall, target, evalOp, opMove, opPick, opAlloc, opBox, opBuild, opBuildSlice, opLoad, opStore, opNilCheck, opBinOp, opUnOp, opConvert, opMakeFunc, opMakeMap, opSlice, opFieldAddr, opField, opIndexAddr, opLookup, opExtract, opAppendB, opLenB, wrOf, appendA, appended, elemsOf, newA, eqlA, keepA, newV, evT, toA, putA, loadA, storeA, takeCells, setCells, isAgg, binA, unA, convA, arith, addOff, dstLen, nilNil, isConst, sameTy, strOp, params, results, packA, AExit.leaves, maxTmp, memN, askIn, fillA, repl, groups, Option.getD, Option.map, List.length, List.all, Int.reduceBEq, Int.reduceBNe, Int.reduceEq, Int.reduceGT, Int.reduceGE, Int.reduceNeg, Int.reduceAdd, Int.reduceSub, Int.reduceLT, Int.reduceLE, Int.reduceToNat, Nat.reduceLT, Nat.reducePow, Nat.reduceAdd, Nat.reduceMul, Nat.reduceLeDiff, Nat.reduceEqDiff, Nat.reduceBEq, reduceIte, ↓reduceIte, reduceCtorEq, syT, tyT, Rg.regF, Rg.findR, pickOps, fT51, Tryz.f51]

/-- the closure of ArmsOnce -/
theorem clo13 {md : Bool} {k : Nat} {v : AVal} {t u : Tst} {H : Hp} {id : Nat} {c0 c1 c7 c8 b : AVal} (h13 : sp md 13 = none) (h14 : sp md 14 = none) (hv : IsT v t) (hb : IsI b u.path) (hn : t.path.length < 9000)
    (hH : H.get id = .cells [c0, c1, b, .int .i64 u.k, .int .i64 u.n, .str u.s, .nilslice, c7, c8]) : evalCall (env sp) (k + 2) md 13 [v, .ptr id 0] H = some (.bool (sameT t u), H) := by
  obtain ⟨a, rfl, ha⟩ := hv
  have hoa := ha.one
  have hob := hb.one
  have e14 : evalCall (env sp) (k + 1) md 14 [a, b] H = _ := eq14 h14 ha hb hn
  rw [show k + 2 = (k + 1) + 1 from rfl, evalCall]
  simp only [sameT, strB]
  rcases bool_split (decide (t.path = u.path)) with h1 | h1
  · rw [h1] at e14
    rcases bool_split (t.k == u.k) with h2 | h2
    · rcases bool_split (t.n == u.n) with h3 | h3
      · simp only [h13, Tryz.func13, Tryz.f13, e14, hoa, hob, hH, h1, h2, h3, evalCode, runOps, runD, runDraw, askOf, askRecs, askAll, isEff, muteOp, stepA, wantedA, isCall, target, evalOp, opMove, opPick, opAlloc, opBox, opBuild, opBuildSlice, opLoad, opStore, opNilCheck, opBinOp, opUnOp, opConvert, opMakeFunc, opMakeMap, opSlice, opFieldAddr, opField, opIndexAddr, opLookup, opExtract, opAppendB, opLenB, wrOf, appendA, appended, elemsOf, newA, eqlA, keepA, newV, evT, toA, putA, loadA, storeA, takeCells, setCells, isAgg, binA, unA, convA, arith, addOff, dstLen, nilNil, isConst, sameTy, strOp, params, results, packA, AExit.leaves, maxTmp, memN, askIn, fillA, repl, groups, Option.getD, Option.map, List.length, List.all, Int.reduceBEq, Int.reduceBNe, Int.reduceEq, Int.reduceGT, Int.reduceGE, Int.reduceNeg, Int.reduceAdd, Int.reduceSub, Int.reduceLT, Int.reduceLE, Int.reduceToNat, Nat.reduceLT, Nat.reducePow, Nat.reduceAdd, Nat.reduceMul, Nat.reduceLeDiff, Nat.reduceEqDiff, Nat.reduceBEq, reduceIte, ↓reduceIte, reduceCtorEq, syT, tyT, Rg.regF, Rg.findR, pickOps, fT13, Tryz.f13]
      · simp only [h13, Tryz.func13, Tryz.f13, e14, hoa, hob, hH, h1, h2, h3, evalCode, runOps, runD, runDraw, askOf, askRecs, askAll, isEff, muteOp, stepA, wantedA, isCall, target, evalOp, opMove, opPick, opAlloc, opBox, opBuild, opBuildSlice, opLoad, opStore, opNilCheck, opBinOp, opUnOp, opConvert, opMakeFunc, opMakeMap, opSlice, opFieldAddr, opField, opIndexAddr, opLookup, opExtract, opAppendB, opLenB, wrOf, appendA, appended, elemsOf, newA, eqlA, keepA, newV, evT, toA, putA, loadA, storeA, takeCells, setCells, isAgg, binA, unA, convA, arith, addOff, dstLen, nilNil, isConst, sameTy, strOp, params, results, packA, AExit.leaves, maxTmp, memN, askIn, fillA, repl, groups, Option.getD, Option.map, List.length, List.all, Int.reduceBEq, Int.reduceBNe, Int.reduceEq, Int.reduceGT, Int.reduceGE, Int.reduceNeg, Int.reduceAdd, Int.reduceSub, Int.reduceLT, Int.reduceLE, Int.reduceToNat, Nat.reduceLT, Nat.reducePow, Nat.reduceAdd, Nat.reduceMul, Nat.reduceLeDiff, Nat.reduceEqDiff, Nat.reduceBEq, reduceIte, ↓reduceIte, reduceCtorEq, syT, tyT, Rg.regF, Rg.findR, pickOps, fT13, Tryz.f13]
    · simp only [h13, Tryz.func13, Tryz.f13, e14, hoa, hob, hH, h1, h2, evalCode, runOps, runD, runDraw, askOf, askRecs, askAll, isEff, muteOp, stepA, wantedA, isCall, target, evalOp, opMove, opPick, opAlloc, opBox, opBuild, opBuildSlice, opLoad, opStore, opNilCheck, opBinOp, opUnOp, opConvert, opMakeFunc, opMakeMap, opSlice, opFieldAddr, opField, opIndexAddr, opLookup, opExtract, opAppendB, opLenB, wrOf, appendA, appended, elemsOf, newA, eqlA, keepA, newV, evT, toA, putA, loadA, storeA, takeCells, setCells, isAgg, binA, unA, convA, arith, addOff, dstLen, nilNil, isConst, sameTy, strOp, params, results, packA, AExit.leaves, maxTmp, memN, askIn, fillA, repl, groups, Option.getD, Option.map, List.length, List.all, Int.reduceBEq, Int.reduceBNe, Int.reduceEq, Int.reduceGT, Int.reduceGE, Int.reduceNeg, Int.reduceAdd, Int.reduceSub, Int.reduceLT, Int.reduceLE, Int.reduceToNat, Nat.reduceLT, Nat.reducePow, Nat.reduceAdd, Nat.reduceMul, Nat.reduceLeDiff, Nat.reduceEqDiff, Nat.reduceBEq, reduceIte, ↓reduceIte, reduceCtorEq, syT, tyT, Rg.regF, Rg.findR, pickOps, fT13, Tryz.f13]
  · rw [h1] at e14
    simp only [h13, Tryz.func13, Tryz.f13, e14, hoa, hob, hH, h1, evalCode, runOps, runD, runDraw, askOf, askRecs, askAll, isEff, muteOp, stepA, wantedA, isCall, target, evalOp, opMove, opPick, opAlloc, opBox, opBuild, opBuildSlice, opLoad, opStore, opNilCheck, opBinOp, opUnOp, opConvert, opMakeFunc, opMakeMap, opSlice, opFieldAddr, opField, opIndexAddr, opLookup, opExtract, opAppendB, opLenB, wrOf, appendA, appended, elemsOf, newA, eqlA, keepA, newV, evT, toA, putA, loadA, storeA, takeCells, setCells, isAgg, binA, unA, convA, arith, addOff, dstLen, nilNil, isConst, sameTy, strOp, params, results, packA, AExit.leaves, maxTmp, memN, askIn, fillA, repl, groups, Option.getD, Option.map, List.length, List.all, Int.reduceBEq, Int.reduceBNe, Int.reduceEq, Int.reduceGT, Int.reduceGE, Int.reduceNeg, Int.reduceAdd, Int.reduceSub, Int.reduceLT, Int.reduceLE, Int.reduceToNat, Nat.reduceLT, Nat.reducePow, Nat.reduceAdd, Nat.reduceMul, Nat.reduceLeDiff, Nat.reduceEqDiff, Nat.reduceBEq, reduceIte, ↓reduceIte, reduceCtorEq, syT, tyT, Rg.regF, Rg.findR, pickOps, fT13, Tryz.f13]

/-- slices.Clone -/
theorem clone47_nil {md : Bool} {k : Nat} {H : Hp} (h47 : sp md 47 = none) : evalCall (env sp) (k + 1) md 47 [.nilslice] H = some (.nilslice, H) := by
  rw [evalCall]
  simp only [h47, Tryz.func47, Tryz.f47, eqlA, evalCode, runOps, runD, runDraw, askOf, askRecs, askAll, isEff, muteOp, stepA, wantedA, isCall, target, evalOp, opMove, opPick, opAlloc, opBox, opBuild, opBuildSlice, opLoad, opStore, opNilCheck, opBinOp, opUnOp, opConvert, opMakeFunc, opMakeMap, opSlice, opFieldAddr, opField, opIndexAddr, opLookup, opExtract, opAppendB, opLenB, wrOf, appendA, appended, elemsOf, newA, eqlA, keepA, newV, evT, toA, putA, loadA, storeA, takeCells, setCells, isAgg, binA, unA, convA, arith, addOff, dstLen, nilNil, isConst, sameTy, strOp, params, results, packA, AExit.leaves, maxTmp, memN, askIn, fillA, repl, groups, Option.getD, Option.map, List.length, List.all, Int.reduceBEq, Int.reduceBNe, Int.reduceEq, Int.reduceGT, Int.reduceGE, Int.reduceNeg, Int.reduceAdd, Int.reduceSub, Int.reduceLT, Int.reduceLE, Int.reduceToNat, Nat.reduceLT, Nat.reducePow, Nat.reduceAdd, Nat.reduceMul, Nat.reduceLeDiff, Nat.reduceEqDiff, Nat.reduceBEq, reduceIte, ↓reduceIte, reduceCtorEq, syT, tyT, Rg.regF, Rg.findR, pickOps, fT47, Tryz.f47]

theorem clone47_empty {k : Nat} {H : Hp} {tok : Tok} (h47 : sp false 47 = none) : evalCall (env sp) (k + 1) false 47 [.list [] tok 1] H = some (.list [] .full 1, H) := by
  rw [evalCall]
  simp only [h47, Tryz.func47, Tryz.f47, eqlA, appendA, appended, elemsOf, evalCode, runOps, runD, runDraw, askOf, askRecs, askAll, isEff, muteOp, stepA, wantedA, isCall, target, evalOp, opMove, opPick, opAlloc, opBox, opBuild, opBuildSlice, opLoad, opStore, opNilCheck, opBinOp, opUnOp, opConvert, opMakeFunc, opMakeMap, opSlice, opFieldAddr, opField, opIndexAddr, opLookup, opExtract, opAppendB, opLenB, wrOf, appendA, appended, elemsOf, newA, eqlA, keepA, newV, evT, toA, putA, loadA, storeA, takeCells, setCells, isAgg, binA, unA, convA, arith, addOff, dstLen, nilNil, isConst, sameTy, strOp, params, results, packA, AExit.leaves, maxTmp, memN, askIn, fillA, repl, groups, Option.getD, Option.map, List.length, List.all, Int.reduceBEq, Int.reduceBNe, Int.reduceEq, Int.reduceGT, Int.reduceGE, Int.reduceNeg, Int.reduceAdd, Int.reduceSub, Int.reduceLT, Int.reduceLE, Int.reduceToNat, Nat.reduceLT, Nat.reducePow, Nat.reduceAdd, Nat.reduceMul, Nat.reduceLeDiff, Nat.reduceEqDiff, Nat.reduceBEq, reduceIte, ↓reduceIte, reduceCtorEq, syT, tyT, Rg.regF, Rg.findR, pickOps, fT47, Tryz.f47]

theorem clone47_list {k : Nat} {H : Hp} {tok : Tok} {x : Int} {xs : List Int} (h47 : sp false 47 = none) (hH : H.next < 4096) (hn : xs.length < 9000) : evalCall (env sp) (k + 1) false 47 [.list (ints (x :: xs)) tok 1] H = some (.list (ints (x :: xs)) (.own H.next) 1, (H.alloc .tok).2) := by
  have h1 : (H.alloc .tok).1 = H.next := rfl
  have h2 : (xs.length + 1 < maxRow) = True := by unfold maxRow; simp; omega
  rw [evalCall]
  simp only [h47, Tryz.func47, Tryz.f47, eqlA, appendA, appended, elemsOf, newA, ints, h1, hH, h2, evalCode, runOps, runD, runDraw, askOf, askRecs, askAll, isEff, muteOp, stepA, wantedA, isCall, target, evalOp, opMove, opPick, opAlloc, opBox, opBuild, opBuildSlice, opLoad, opStore, opNilCheck, opBinOp, opUnOp, opConvert, opMakeFunc, opMakeMap, opSlice, opFieldAddr, opField, opIndexAddr, opLookup, opExtract, opAppendB, opLenB, wrOf, appendA, appended, elemsOf, newA, eqlA, keepA, newV, evT, toA, putA, loadA, storeA, takeCells, setCells, isAgg, binA, unA, convA, arith, addOff, dstLen, nilNil, isConst, sameTy, strOp, params, results, packA, AExit.leaves, maxTmp, memN, askIn, fillA, repl, groups, Option.getD, Option.map, List.length, List.all, Int.reduceBEq, Int.reduceBNe, Int.reduceEq, Int.reduceGT, Int.reduceGE, Int.reduceNeg, Int.reduceAdd, Int.reduceSub, Int.reduceLT, Int.reduceLE, Int.reduceToNat, Nat.reduceLT, Nat.reducePow, Nat.reduceAdd, Nat.reduceMul, Nat.reduceLeDiff, Nat.reduceEqDiff, Nat.reduceBEq, reduceIte, ↓reduceIte, reduceCtorEq, syT, tyT, Rg.regF, Rg.findR, pickOps, fT47, Tryz.f47]

end
end Go.Rs.Seat
end
/- Package arms: slices of tests: IndexFunc, ContainsFunc. -/
section
namespace Go.Rs.Seat
open Go.Proofs Rg
set_option maxRecDepth 100000
set_option maxHeartbeats 4000000

/-- element by element -/
def AllP {α : Type} (P : AVal → α → Prop) (vs : List AVal) (l : List α) : Prop := vs.length = l.length ∧ ∀ (i : Nat) v x, vs[i]? = some v → l[i]? = some x → P v x

theorem AllP.nil {α : Type} {P : AVal → α → Prop} : AllP P [] [] := ⟨rfl, by simp⟩
theorem AllP.cons {α : Type} {P : AVal → α → Prop} {v x vs l} (h : P v x) (hs : AllP P vs l) : AllP P (v :: vs) (x :: l) := by
  refine ⟨by simp [hs.1], fun i w y h1 h2 => ?_⟩
  cases i with
  | zero => simp at h1 h2; subst h1 h2; exact h
  | succ i => exact hs.2 i w y (by simpa using h1) (by simpa using h2)
theorem AllP.get {α : Type} {P : AVal → α → Prop} {vs l} (hs : AllP P vs l) {i : Nat} {x : α} (h : l[i]? = some x) : ∃ v, vs[i]? = some v ∧ P v x := by
  have hi : i < vs.length := by rw [hs.1]; exact (List.getElem?_eq_some_iff.1 h).1
  exact ⟨vs[i], List.getElem?_eq_getElem hi, hs.2 i _ _ (List.getElem?_eq_getElem hi) h⟩
theorem AllP.append {α : Type} {P : AVal → α → Prop} {vs l ws m} (hs : AllP P vs l) (ht : AllP P ws m) : AllP P (vs ++ ws) (l ++ m) := by
  refine ⟨by simp [hs.1, ht.1], fun i w y h1 h2 => ?_⟩
  by_cases hi : i < vs.length
  · rw [List.getElem?_append_left hi] at h1
    rw [List.getElem?_append_left (by rw [← hs.1]; exact hi)] at h2
    exact hs.2 i w y h1 h2
  · rw [List.getElem?_append_right (by omega)] at h1
    rw [List.getElem?_append_right (by rw [← hs.1]; omega)] at h2
    rw [← hs.1] at h2
    exact ht.2 _ w y h1 h2
theorem AllP.take {α : Type} {P : AVal → α → Prop} {vs l} (hs : AllP P vs l) (n : Nat) : AllP P (vs.take n) (l.take n) := by
  refine ⟨by simp [hs.1], fun i w y h1 h2 => ?_⟩
  rw [List.getElem?_take] at h1 h2
  split at h1
  · rename_i h; rw [if_pos h] at h2; exact hs.2 i w y h1 h2
  · cases h1
theorem AllP.drop {α : Type} {P : AVal → α → Prop} {vs l} (hs : AllP P vs l) (n : Nat) : AllP P (vs.drop n) (l.drop n) := by
  refine ⟨by simp [hs.1], fun i w y h1 h2 => ?_⟩
  rw [List.getElem?_drop] at h1 h2
  exact hs.2 _ w y h1 h2

/-- a slice -/
def IsS {α : Type} (P : AVal → α → Prop) (sz : Nat) (a : AVal) (l : List α) : Prop := (a = .nilslice ∧ l = []) ∨ ∃ vs t, a = .list vs t sz ∧ AllP P vs l

theorem IsS.one {α : Type} {P : AVal → α → Prop} {sz a l} (h : IsS P sz a l) : a.oneCell = true := by
  rcases h with ⟨rfl, -⟩ | ⟨vs, t, rfl, -⟩ <;> rfl
theorem IsS.len {α : Type} {P : AVal → α → Prop} {sz a l} (h : IsS P sz a l) : dstLen a = some l.length := by
  rcases h with ⟨rfl, rfl⟩ | ⟨vs, t, rfl, h⟩
  · rfl
  · simp [dstLen, h.1]
theorem IsS.lenOf {α : Type} {P : AVal → α → Prop} {sz a l} (h : IsS P sz a l) : lenOf a = some l.length := by
  rcases h with ⟨rfl, rfl⟩ | ⟨vs, t, rfl, h⟩
  · rfl
  · simp [Rs.lenOf, h.1]
theorem IsS.list {α : Type} {P : AVal → α → Prop} {sz a l} (h : IsS P sz a l) {i : Nat} {x : α} (hx : l[i]? = some x) : ∃ vs t, a = .list vs t sz ∧ AllP P vs l := by
  rcases h with ⟨rfl, rfl⟩ | h
  · simp at hx
  · exact h

abbrev IsTs (a : AVal) (l : List Tst) : Prop := IsS IsT 5 a l

/-- the first that fits -/
def idxI {α : Type} (p : α → Bool) (l : List α) : Int := match l.findIdx? p with
  | some i => i
  | none => -1

theorem idxI_some {α : Type} {p : α → Bool} {l : List α} {i : Nat} {x : α} (hx : l[i]? = some x) (h : p x = true) (hp : ∀ j < i, ∀ y, l[j]? = some y → p y = false) : idxI p l = i := by
  unfold idxI
  have hi := (List.getElem?_eq_some_iff.1 hx).1
  have : l.findIdx? p = some i := by
    rw [List.findIdx?_eq_some_iff_getElem]
    refine ⟨hi, ?_, fun j hj => ?_⟩
    · rw [List.getElem?_eq_getElem hi] at hx
      injection hx with hx
      rw [hx]; exact h
    · have := hp j hj _ (List.getElem?_eq_getElem (by omega))
      simp [this]
  rw [this]

theorem idxI_none {α : Type} {p : α → Bool} {l : List α} (hp : ∀ (j : Nat) y, l[j]? = some y → p y = false) : idxI p l = -1 := by
  unfold idxI
  have : l.findIdx? p = none := by
    rw [List.findIdx?_eq_none_iff]
    intro x hx
    obtain ⟨i, hi⟩ := List.mem_iff_getElem?.1 hx
    exact hp i x hi
  rw [this]

section
variable {sp : Bool → FuncId → Option (List AVal → Hp → Option (AVal × Hp))}

def Inv30 (a f : AVal) (n : Nat) (H : Hp) (i : Nat) (st : St) : Prop :=
  st.1.n = 19 ∧ st.2 = H ∧ st.1.tm.get 0 = some a ∧ st.1.tm.get 1 = some f ∧ st.1.tm.get 7 = some (.int .i64 n) ∧ st.1.tm.get 8 = some (.int .i64 i)

theorem idx30_step {call : CallF} {md : Bool} {st : St} {H : Hp} {vs : List AVal} {tok : Tok} {i g n : Nat} {caps : List AVal} {t : Tst} {v : AVal} {b : Bool}
    (h : Inv30 (.list vs tok 5) (.func (.func g) [] caps) n H i st) (hv : vs[i]? = some v) (hT : IsT v t) (hc : caps.all (·.handed) = true) (hcall : call md g (v :: caps) H = some (.bool b, H)) (hn : n = vs.length) (hlt : n < 9000) :
    Ev (env sp) call md 30 b30_0 st fun ex s => if b = true then ex = .ret ∧ s.2 = H ∧ s.1.tm.get 4 = some (.int .i64 i) else ex = .normal ∧ Inv30 (.list vs tok 5) (.func (.func g) [] caps) n H (i + 1) s := by
  obtain ⟨hn', hH, h0, h1, h7, h8⟩ := h
  obtain ⟨a, rfl, ha⟩ := hT
  have hoa := ha.one
  have hi : i < vs.length := (List.getElem?_eq_some_iff.1 hv).1
  subst hn
  have hi' : ((i : Int) < (vs.length : Int)) = True := by simp [hi]
  have h0' : (0 ≤ (i : Int)) = True := by simp
  have hw : IntKind.i64.wrap ((i : Int) + 1) = ((i + 1 : Nat) : Int) := wrap_nat (by omega)
  cases b with
  | true => simp only [Ev, b30_0, o30_2, o30_3, o30_4, o30_5, hn', hH, h0, h1, h7, h8, hi', h0', hv, hcall, hc, hoa, hw, evalCode, runOps, runD, runDraw, askOf, askRecs, askAll, isEff, muteOp, stepA, wantedA, isCall, target, evalOp, opMove, opPick, opAlloc, opBox, opBuild, opBuildSlice, opLoad, opStore, opNilCheck, opBinOp, opUnOp, opConvert, opMakeFunc, opMakeMap, opSlice, opFieldAddr, opField, opIndexAddr, opLookup, opExtract, opAppendB, opLenB, wrOf, appendA, appended, elemsOf, newA, eqlA, keepA, newV, evT, toA, putA, loadA, storeA, takeCells, setCells, isAgg, binA, unA, convA, arith, addOff, dstLen, nilNil, isConst, sameTy, strOp, params, results, packA, AExit.leaves, maxTmp, memN, askIn, fillA, repl, groups, Option.getD, Option.map, List.length, List.all, Int.reduceBEq, Int.reduceBNe, Int.reduceEq, Int.reduceGT, Int.reduceGE, Int.reduceNeg, Int.reduceAdd, Int.reduceSub, Int.reduceLT, Int.reduceLE, Int.reduceToNat, Nat.reduceLT, Nat.reducePow, Nat.reduceAdd, Nat.reduceMul, Nat.reduceLeDiff, Nat.reduceEqDiff, Nat.reduceBEq, reduceIte, ↓reduceIte, reduceCtorEq, syT, tyT, Rg.regF, Rg.findR, pickOps, fT30, Tryz.f30]
  | false => simp only [Ev, Inv30, b30_0, o30_2, o30_3, o30_4, o30_6, hn', hH, h0, h1, h7, h8, hi', h0', hv, hcall, hc, hoa, hw, evalCode, runOps, runD, runDraw, askOf, askRecs, askAll, isEff, muteOp, stepA, wantedA, isCall, target, evalOp, opMove, opPick, opAlloc, opBox, opBuild, opBuildSlice, opLoad, opStore, opNilCheck, opBinOp, opUnOp, opConvert, opMakeFunc, opMakeMap, opSlice, opFieldAddr, opField, opIndexAddr, opLookup, opExtract, opAppendB, opLenB, wrOf, appendA, appended, elemsOf, newA, eqlA, keepA, newV, evT, toA, putA, loadA, storeA, takeCells, setCells, isAgg, binA, unA, convA, arith, addOff, dstLen, nilNil, isConst, sameTy, strOp, params, results, packA, AExit.leaves, maxTmp, memN, askIn, fillA, repl, groups, Option.getD, Option.map, List.length, List.all, Int.reduceBEq, Int.reduceBNe, Int.reduceEq, Int.reduceGT, Int.reduceGE, Int.reduceNeg, Int.reduceAdd, Int.reduceSub, Int.reduceLT, Int.reduceLE, Int.reduceToNat, Nat.reduceLT, Nat.reducePow, Nat.reduceAdd, Nat.reduceMul, Nat.reduceLeDiff, Nat.reduceEqDiff, Nat.reduceBEq, reduceIte, ↓reduceIte, reduceCtorEq, syT, tyT, Rg.regF, Rg.findR, pickOps, fT30, Tryz.f30]

theorem idx30_end {call : CallF} {md : Bool} {st : St} {H : Hp} {a f : AVal} {n : Nat} (h : Inv30 a f n H n st) :
    Ev (env sp) call md 30 b30_0 st fun ex s => ex = .exit 0 ∧ s.1.n = 19 ∧ s.2 = H := by
  obtain ⟨hn', hH, h0, h1, h7, h8⟩ := h
  have hi' : ((n : Int) < (n : Int)) = False := by simp
  simp only [Ev, b30_0, o30_2, hn', hH, h0, h1, h7, h8, hi', evalCode, runOps, runD, runDraw, askOf, askRecs, askAll, isEff, muteOp, stepA, wantedA, isCall, target, evalOp, opMove, opPick, opAlloc, opBox, opBuild, opBuildSlice, opLoad, opStore, opNilCheck, opBinOp, opUnOp, opConvert, opMakeFunc, opMakeMap, opSlice, opFieldAddr, opField, opIndexAddr, opLookup, opExtract, opAppendB, opLenB, wrOf, appendA, appended, elemsOf, newA, eqlA, keepA, newV, evT, toA, putA, loadA, storeA, takeCells, setCells, isAgg, binA, unA, convA, arith, addOff, dstLen, nilNil, isConst, sameTy, strOp, params, results, packA, AExit.leaves, maxTmp, memN, askIn, fillA, repl, groups, Option.getD, Option.map, List.length, List.all, Int.reduceBEq, Int.reduceBNe, Int.reduceEq, Int.reduceGT, Int.reduceGE, Int.reduceNeg, Int.reduceAdd, Int.reduceSub, Int.reduceLT, Int.reduceLE, Int.reduceToNat, Nat.reduceLT, Nat.reducePow, Nat.reduceAdd, Nat.reduceMul, Nat.reduceLeDiff, Nat.reduceEqDiff, Nat.reduceBEq, reduceIte, ↓reduceIte, reduceCtorEq, syT, tyT, Rg.regF, Rg.findR, pickOps, fT30, Tryz.f30]

theorem idx30 {md : Bool} {k g : Nat} {a : AVal} {caps : List AVal} {ts : List Tst} {p : Tst → Bool} {H : Hp} (hsp : sp md 30 = none) (ha : IsTs a ts) (hn : ts.length < 9000) (hc : caps.all (·.handed) = true)
    (hcall : ∀ v t, IsT v t → t ∈ ts → evalCall (env sp) k md g (v :: caps) H = some (.bool (p t), H)) :
    evalCall (env sp) (k + 1) md 30 [a, .func (.func g) [] caps] H = some (.int .i64 (idxI p ts), H) := by
  have hoa := ha.one
  have hla := ha.len
  have key : ∃ r, evalCall (env sp) (k + 1) md 30 [a, .func (.func g) [] caps] H = some r ∧ (r.1 = .int .i64 (idxI p ts) ∧ r.2 = H) := by
    refine enter30 (Post := fun v H' => v = .int .i64 (idxI p ts) ∧ H' = H) hsp rfl ?_
    unfold c30
    refine Ev.seqN (Q := fun s => s.1.n = 19 ∧ s.2 = H ∧ s.1.tm.get 0 = some a ∧ s.1.tm.get 1 = some (.func (.func g) [] caps)) ?_ ?_
    · simp only [Ev, o30_0, hoa, evalCode, runOps, runD, runDraw, askOf, askRecs, askAll, isEff, muteOp, stepA, wantedA, isCall, target, evalOp, opMove, opPick, opAlloc, opBox, opBuild, opBuildSlice, opLoad, opStore, opNilCheck, opBinOp, opUnOp, opConvert, opMakeFunc, opMakeMap, opSlice, opFieldAddr, opField, opIndexAddr, opLookup, opExtract, opAppendB, opLenB, wrOf, appendA, appended, elemsOf, newA, eqlA, keepA, newV, evT, toA, putA, loadA, storeA, takeCells, setCells, isAgg, binA, unA, convA, arith, addOff, dstLen, nilNil, isConst, sameTy, strOp, params, results, packA, AExit.leaves, maxTmp, memN, askIn, fillA, repl, groups, Option.getD, Option.map, List.length, List.all, Int.reduceBEq, Int.reduceBNe, Int.reduceEq, Int.reduceGT, Int.reduceGE, Int.reduceNeg, Int.reduceAdd, Int.reduceSub, Int.reduceLT, Int.reduceLE, Int.reduceToNat, Nat.reduceLT, Nat.reducePow, Nat.reduceAdd, Nat.reduceMul, Nat.reduceLeDiff, Nat.reduceEqDiff, Nat.reduceBEq, reduceIte, ↓reduceIte, reduceCtorEq, syT, tyT, Rg.regF, Rg.findR, pickOps, fT30, Tryz.f30]
    rintro s ⟨hn', hH, h0, h1⟩
    refine Ev.seq (Q := fun ex s => (ex = .normal ∧ s.1.n = 19 ∧ s.2 = H ∧ idxI p ts = -1) ∨ (ex = .ret ∧ s.2 = H ∧ s.1.tm.get 4 = some (.int .i64 (idxI p ts)))) ?_ ?_ ?_
    · refine Ev.seqN (Q := fun s => Inv30 a (.func (.func g) [] caps) ts.length H 0 s) ?_ ?_
      · simp only [Ev, Inv30, o30_1, hn', hH, h0, h1, hoa, ↓hla, evalCode, runOps, runD, runDraw, askOf, askRecs, askAll, isEff, muteOp, stepA, wantedA, isCall, target, evalOp, opMove, opPick, opAlloc, opBox, opBuild, opBuildSlice, opLoad, opStore, opNilCheck, opBinOp, opUnOp, opConvert, opMakeFunc, opMakeMap, opSlice, opFieldAddr, opField, opIndexAddr, opLookup, opExtract, opAppendB, opLenB, wrOf, appendA, appended, elemsOf, newA, eqlA, keepA, newV, evT, toA, putA, loadA, storeA, takeCells, setCells, isAgg, binA, unA, convA, arith, addOff, dstLen, nilNil, isConst, sameTy, strOp, params, results, packA, AExit.leaves, maxTmp, memN, askIn, fillA, repl, groups, Option.getD, Option.map, List.length, List.all, Int.reduceBEq, Int.reduceBNe, Int.reduceEq, Int.reduceGT, Int.reduceGE, Int.reduceNeg, Int.reduceAdd, Int.reduceSub, Int.reduceLT, Int.reduceLE, Int.reduceToNat, Nat.reduceLT, Nat.reducePow, Nat.reduceAdd, Nat.reduceMul, Nat.reduceLeDiff, Nat.reduceEqDiff, Nat.reduceBEq, reduceIte, ↓reduceIte, reduceCtorEq, syT, tyT, Rg.regF, Rg.findR, pickOps, fT30, Tryz.f30]
      intro s hs
      refine Ev.block (Ev.loop (Inv := fun i s => Inv30 a (.func (.func g) [] caps) ts.length H i s ∧ ∀ j < i, ∀ y, ts[j]? = some y → p y = false) ts.length hn ⟨hs, by simp⟩ fun i st hi hle => ?_)
      obtain ⟨hi, hpre⟩ := hi
      by_cases hlt : i < ts.length
      · obtain ⟨t, ht⟩ : ∃ t, ts[i]? = some t := ⟨_, List.getElem?_eq_getElem hlt⟩
        obtain ⟨vs, tok, rfl, hvs⟩ := ha.list ht
        obtain ⟨v, hv, hT⟩ := hvs.get ht
        refine (idx30_step hi hv hT hc (hcall v t hT (List.mem_iff_getElem?.2 ⟨i, ht⟩)) hvs.1.symm hn).mono fun ex s hs => ?_
        cases hp : p t with
        | true =>
          rw [if_pos hp] at hs
          refine .inr ⟨by rw [hs.1]; simp, .inr ⟨by rw [hs.1]; rfl, hs.2.1, ?_⟩⟩
          rw [hs.2.2, idxI_some ht hp hpre]
        | false =>
          rw [if_neg (by simp [hp])] at hs
          refine .inl ⟨hs.1, hlt, hs.2, fun j hj y hy => ?_⟩
          rcases Nat.lt_succ_iff_lt_or_eq.1 hj with h | h
          · exact hpre j h y hy
          · rw [h, ht] at hy
            injection hy with hy
            rw [← hy]; exact hp
      · have : i = ts.length := by omega
        subst this
        refine (idx30_end hi).mono fun ex s hs => .inr ⟨by rw [hs.1]; simp, .inl ⟨by rw [hs.1]; rfl, hs.2.1, hs.2.2, ?_⟩⟩
        exact idxI_none fun j y hy => hpre j (List.getElem?_eq_some_iff.1 hy).1 y hy
    · rintro s (⟨-, hn', hH, heq⟩ | ⟨h, -⟩)
      · simp only [Ev, o30_7, hn', hH, heq, evalCode, runOps, runD, runDraw, askOf, askRecs, askAll, isEff, muteOp, stepA, wantedA, isCall, target, evalOp, opMove, opPick, opAlloc, opBox, opBuild, opBuildSlice, opLoad, opStore, opNilCheck, opBinOp, opUnOp, opConvert, opMakeFunc, opMakeMap, opSlice, opFieldAddr, opField, opIndexAddr, opLookup, opExtract, opAppendB, opLenB, wrOf, appendA, appended, elemsOf, newA, eqlA, keepA, newV, evT, toA, putA, loadA, storeA, takeCells, setCells, isAgg, binA, unA, convA, arith, addOff, dstLen, nilNil, isConst, sameTy, strOp, params, results, packA, AExit.leaves, maxTmp, memN, askIn, fillA, repl, groups, Option.getD, Option.map, List.length, List.all, Int.reduceBEq, Int.reduceBNe, Int.reduceEq, Int.reduceGT, Int.reduceGE, Int.reduceNeg, Int.reduceAdd, Int.reduceSub, Int.reduceLT, Int.reduceLE, Int.reduceToNat, Nat.reduceLT, Nat.reducePow, Nat.reduceAdd, Nat.reduceMul, Nat.reduceLeDiff, Nat.reduceEqDiff, Nat.reduceBEq, reduceIte, ↓reduceIte, reduceCtorEq, syT, tyT, Rg.regF, Rg.findR, pickOps, fT30, Tryz.f30]
      · cases h
    · rintro ex s hne (⟨h, -⟩ | ⟨rfl, hH, h4⟩)
      · exact absurd h hne
      · simp only [hH, h4, evalCode, runOps, runD, runDraw, askOf, askRecs, askAll, isEff, muteOp, stepA, wantedA, isCall, target, evalOp, opMove, opPick, opAlloc, opBox, opBuild, opBuildSlice, opLoad, opStore, opNilCheck, opBinOp, opUnOp, opConvert, opMakeFunc, opMakeMap, opSlice, opFieldAddr, opField, opIndexAddr, opLookup, opExtract, opAppendB, opLenB, wrOf, appendA, appended, elemsOf, newA, eqlA, keepA, newV, evT, toA, putA, loadA, storeA, takeCells, setCells, isAgg, binA, unA, convA, arith, addOff, dstLen, nilNil, isConst, sameTy, strOp, params, results, packA, AExit.leaves, maxTmp, memN, askIn, fillA, repl, groups, Option.getD, Option.map, List.length, List.all, Int.reduceBEq, Int.reduceBNe, Int.reduceEq, Int.reduceGT, Int.reduceGE, Int.reduceNeg, Int.reduceAdd, Int.reduceSub, Int.reduceLT, Int.reduceLE, Int.reduceToNat, Nat.reduceLT, Nat.reducePow, Nat.reduceAdd, Nat.reduceMul, Nat.reduceLeDiff, Nat.reduceEqDiff, Nat.reduceBEq, reduceIte, ↓reduceIte, reduceCtorEq, syT, tyT, Rg.regF, Rg.findR, pickOps, fT30, Tryz.f30]
  obtain ⟨⟨v, H'⟩, h1, rfl, rfl⟩ := key
  exact h1

theorem idxI_geq {α : Type} (p : α → Bool) (l : List α) : decide (idxI p l ≥ 0) = l.any p := by
  unfold idxI
  cases h : l.findIdx? p with
  | none =>
    rw [List.findIdx?_eq_none_iff] at h
    simp only [ge_iff_le]
    rw [decide_eq_false (by omega), eq_comm, List.any_eq_false]
    intro x hx
    simp [h x hx]
  | some i =>
    obtain ⟨hi, h1, -⟩ := List.findIdx?_eq_some_iff_getElem.1 h
    simp only [ge_iff_le]
    rw [decide_eq_true (by omega), eq_comm, List.any_eq_true]
    exact ⟨_, List.getElem_mem hi, h1⟩

theorem has12 {md : Bool} {k g : Nat} {a : AVal} {caps : List AVal} {ts : List Tst} {p : Tst → Bool} {H : Hp} (h12 : sp md 12 = none) (h30 : sp md 30 = none) (ha : IsTs a ts) (hn : ts.length < 9000) (hc : caps.all (·.handed) = true)
    (hcall : ∀ v t, IsT v t → t ∈ ts → evalCall (env sp) k md g (v :: caps) H = some (.bool (p t), H)) :
    evalCall (env sp) (k + 2) md 12 [a, .func (.func g) [] caps] H = some (.bool (ts.any p), H) := by
  have e30 : evalCall (env sp) (k + 1) md 30 [a, .func (.func g) [] caps] H = _ := idx30 h30 ha hn hc hcall
  have hoa := ha.one
  have hg := idxI_geq p ts
  rw [show k + 2 = (k + 1) + 1 from rfl, evalCall]
  simp only [h12, Tryz.func12, Tryz.f12, e30, hoa, hc, hg, evalCode, runOps, runD, runDraw, askOf, askRecs, askAll, isEff, muteOp, stepA, wantedA, isCall, target, evalOp, opMove, opPick, opAlloc, opBox, opBuild, opBuildSlice, opLoad, opStore, opNilCheck, opBinOp, opUnOp, opConvert, opMakeFunc, opMakeMap, opSlice, opFieldAddr, opField, opIndexAddr, opLookup, opExtract, opAppendB, opLenB, wrOf, appendA, appended, elemsOf, newA, eqlA, keepA, newV, evT, toA, putA, loadA, storeA, takeCells, setCells, isAgg, binA, unA, convA, arith, addOff, dstLen, nilNil, isConst, sameTy, strOp, params, results, packA, AExit.leaves, maxTmp, memN, askIn, fillA, repl, groups, Option.getD, Option.map, List.length, List.all, Int.reduceBEq, Int.reduceBNe, Int.reduceEq, Int.reduceGT, Int.reduceGE, Int.reduceNeg, Int.reduceAdd, Int.reduceSub, Int.reduceLT, Int.reduceLE, Int.reduceToNat, Nat.reduceLT, Nat.reducePow, Nat.reduceAdd, Nat.reduceMul, Nat.reduceLeDiff, Nat.reduceEqDiff, Nat.reduceBEq, reduceIte, ↓reduceIte, reduceCtorEq, syT, tyT, Rg.regF, Rg.findR, pickOps, fT12, Tryz.f12]
end
end Go.Rs.Seat
end
/- Package arms: Holds. -/
section
namespace Go.Rs.Seat
open Go.Proofs Rg
set_option maxRecDepth 100000
set_option maxHeartbeats 4000000

mutual
/-- a node: a pattern or a value -/
def IsN : Nd → AVal → Prop
  | .mk k n s l, v => ∃ a, v = .agg [.int .i64 k, .int .i64 n, .str s, a] ∧ ((a = .nilslice ∧ l = []) ∨ ∃ vs t, a = .list vs t 4 ∧ IsNs l vs)
def IsNs : List Nd → List AVal → Prop
  | [], [] => True
  | x :: l, v :: vs => IsN x v ∧ IsNs l vs
  | [], _ :: _ => False
  | _ :: _, [] => False
end

theorem IsNs_iff : ∀ (l : List Nd) (vs : List AVal), IsNs l vs ↔ AllP (fun v x => IsN x v) vs l
  | [], [] => by simp [IsNs, AllP]
  | x :: l, v :: vs => by
    simp only [IsNs]
    rw [IsNs_iff l vs]
    constructor
    · rintro ⟨h1, h2⟩; exact .cons h1 h2
    · intro h
      refine ⟨h.2 0 v x rfl rfl, by simpa [AllP] using h.1, fun i w y h1 h2 => h.2 (i + 1) w y (by simpa using h1) (by simpa using h2)⟩
  | [], _ :: _ => by simp [IsNs, AllP]
  | _ :: _, [] => by simp [IsNs, AllP]

abbrev IsL (a : AVal) (l : List Nd) : Prop := IsS (fun v x => IsN x v) 4 a l

theorem IsN_mk {k n s l v} : IsN (.mk k n s l) v ↔ ∃ a, v = .agg [.int .i64 k, .int .i64 n, .str s, a] ∧ IsL a l := by
  unfold IsN IsL IsS
  constructor
  · rintro ⟨a, h, h1 | ⟨vs, t, h1, h2⟩⟩
    · exact ⟨a, h, .inl h1⟩
    · exact ⟨a, h, .inr ⟨vs, t, h1, (IsNs_iff _ _).1 h2⟩⟩
  · rintro ⟨a, h, h1 | ⟨vs, t, h1, h2⟩⟩
    · exact ⟨a, h, .inl h1⟩
    · exact ⟨a, h, .inr ⟨vs, t, h1, (IsNs_iff _ _).2 h2⟩⟩

theorem IsN.cells {x : Nd} {v : AVal} (h : IsN x v) : ∃ a, v = .agg [.int .i64 x.k, .int .i64 x.n, .str x.s, a] ∧ IsL a x.l := by
  cases x with
  | mk k n s l => exact IsN_mk.1 h

theorem isN_of {x : Nd} {a : AVal} (h : IsL a x.l) : IsN x (.agg [.int .i64 x.k, .int .i64 x.n, .str x.s, a]) := by
  cases x with
  | mk k n s l => exact IsN_mk.2 ⟨a, rfl, h⟩

def walk : List Int → Nd → Option Nd
  | [], v => some v
  | i :: p, v => if v.k != 5 || decide (i < 0) then none else match v.l[i.toNat]? with
    | some w => walk p w
    | none => none

def testB (t : Tst) (v : Nd) : Bool := if t.k == 6 then v.k == 5 && strB v.s t.s && ((v.l.length : Int) == t.n) else litB (.mk t.k t.n t.s []) v

def holdsB (t : Tst) (v : Nd) : Bool := match walk t.path v with
  | some w => testB t w
  | none => false

section
variable {sp : Bool → FuncId → Option (List AVal → Hp → Option (AVal × Hp))}

def Inv15 (t : Tst) (a : AVal) (v : Nd) (H : Hp) (i : Nat) (st : St) : Prop :=
  st.1.n = 62 ∧ st.2 = H ∧ st.1.tm.get 2 = some (.lptr 0 0) ∧ st.1.tm.get 3 = some (.lptr 1 0) ∧ st.1.tm.get 8 = some a ∧ st.1.tm.get 9 = some (.int .i64 t.path.length) ∧ st.1.tm.get 10 = some (.int .i64 i) ∧
    st.1.lv.get 0 = some [a, .int .i64 t.k, .int .i64 t.n, .str t.s, .nilslice] ∧ ∃ b, st.1.lv.get 1 = some [.int .i64 v.k, .int .i64 v.n, .str v.s, b] ∧ IsL b v.l

theorem holds15_step {call : CallF} {md : Bool} {st : St} {H : Hp} {t : Tst} {tok : Tok} {v : Nd} {i : Nat} {x : Int} (h : Inv15 t (.list (ints t.path) tok 1) v H i st) (hx : t.path[i]? = some x) (hn : t.path.length < 9000) :
    Ev (env sp) call md 15 b15_0 st fun ex s => match walk [x] v with
      | some w => ex = .normal ∧ Inv15 t (.list (ints t.path) tok 1) w H (i + 1) s
      | none => ex = .ret ∧ s.2 = H ∧ s.1.tm.get 4 = some (.bool false) := by
  obtain ⟨hn', hH, h2, h3, h8, h9, h10, hl0, b, hl1, hb⟩ := h
  have hob := hb.one
  have hlb := hb.len
  have hi : i < t.path.length := (List.getElem?_eq_some_iff.1 hx).1
  have hi' : ((i : Int) < (t.path.length : Int)) = True := by simp [hi]
  have h0' : (0 ≤ (i : Int)) = True := by simp
  have gx := ints_get hx
  have hw : IntKind.i64.wrap ((i : Int) + 1) = ((i + 1 : Nat) : Int) := wrap_nat (by omega)
  simp only [walk]
  rcases bool_split (v.k != 5) with c1 | c1
  · simp only [Ev, b15_0, o15_2, o15_3, o15_4, o15_5, hn', hH, h2, h3, h8, h9, h10, hl0, hl1, hi', h0', gx, ints_len, hw, c1, evalCode, runOps, runD, runDraw, askOf, askRecs, askAll, isEff, muteOp, stepA, wantedA, isCall, target, evalOp, opMove, opPick, opAlloc, opBox, opBuild, opBuildSlice, opLoad, opStore, opNilCheck, opBinOp, opUnOp, opConvert, opMakeFunc, opMakeMap, opSlice, opFieldAddr, opField, opIndexAddr, opLookup, opExtract, opAppendB, opLenB, wrOf, appendA, appended, elemsOf, newA, eqlA, keepA, newV, evT, toA, putA, loadA, storeA, takeCells, setCells, isAgg, binA, unA, convA, arith, addOff, dstLen, nilNil, isConst, sameTy, strOp, params, results, packA, AExit.leaves, maxTmp, memN, askIn, fillA, repl, groups, Option.getD, Option.map, List.length, List.all, Int.reduceBEq, Int.reduceBNe, Int.reduceEq, Int.reduceGT, Int.reduceGE, Int.reduceNeg, Int.reduceAdd, Int.reduceSub, Int.reduceLT, Int.reduceLE, Int.reduceToNat, Nat.reduceLT, Nat.reducePow, Nat.reduceAdd, Nat.reduceMul, Nat.reduceLeDiff, Nat.reduceEqDiff, Nat.reduceBEq, reduceIte, ↓reduceIte, reduceCtorEq, syT, tyT, Rg.regF, Rg.findR, pickOps, fT15, Tryz.f15]
  · rcases bool_split (decide (x < 0)) with c2 | c2
    · simp only [Ev, b15_0, o15_2, o15_3, o15_4, o15_5, hn', hH, h2, h3, h8, h9, h10, hl0, hl1, hi', h0', gx, ints_len, hw, c1, c2, evalCode, runOps, runD, runDraw, askOf, askRecs, askAll, isEff, muteOp, stepA, wantedA, isCall, target, evalOp, opMove, opPick, opAlloc, opBox, opBuild, opBuildSlice, opLoad, opStore, opNilCheck, opBinOp, opUnOp, opConvert, opMakeFunc, opMakeMap, opSlice, opFieldAddr, opField, opIndexAddr, opLookup, opExtract, opAppendB, opLenB, wrOf, appendA, appended, elemsOf, newA, eqlA, keepA, newV, evT, toA, putA, loadA, storeA, takeCells, setCells, isAgg, binA, unA, convA, arith, addOff, dstLen, nilNil, isConst, sameTy, strOp, params, results, packA, AExit.leaves, maxTmp, memN, askIn, fillA, repl, groups, Option.getD, Option.map, List.length, List.all, Int.reduceBEq, Int.reduceBNe, Int.reduceEq, Int.reduceGT, Int.reduceGE, Int.reduceNeg, Int.reduceAdd, Int.reduceSub, Int.reduceLT, Int.reduceLE, Int.reduceToNat, Nat.reduceLT, Nat.reducePow, Nat.reduceAdd, Nat.reduceMul, Nat.reduceLeDiff, Nat.reduceEqDiff, Nat.reduceBEq, reduceIte, ↓reduceIte, reduceCtorEq, syT, tyT, Rg.regF, Rg.findR, pickOps, fT15, Tryz.f15]
    · have hx0 : 0 ≤ x := by simpa using c2
      cases hy : v.l[x.toNat]? with
      | none =>
        have hge : v.l.length ≤ x.toNat := List.getElem?_eq_none_iff.1 hy
        have c3 : decide (x ≥ (v.l.length : Int)) = true := by simp; omega
        simp only [Ev, b15_0, o15_2, o15_3, o15_4, o15_5, hn', hH, h2, h3, h8, h9, h10, hl0, hl1, hi', h0', gx, ints_len, hw, c1, c2, c3, ↓hlb, hob, evalCode, runOps, runD, runDraw, askOf, askRecs, askAll, isEff, muteOp, stepA, wantedA, isCall, target, evalOp, opMove, opPick, opAlloc, opBox, opBuild, opBuildSlice, opLoad, opStore, opNilCheck, opBinOp, opUnOp, opConvert, opMakeFunc, opMakeMap, opSlice, opFieldAddr, opField, opIndexAddr, opLookup, opExtract, opAppendB, opLenB, wrOf, appendA, appended, elemsOf, newA, eqlA, keepA, newV, evT, toA, putA, loadA, storeA, takeCells, setCells, isAgg, binA, unA, convA, arith, addOff, dstLen, nilNil, isConst, sameTy, strOp, params, results, packA, AExit.leaves, maxTmp, memN, askIn, fillA, repl, groups, Option.getD, Option.map, List.length, List.all, Int.reduceBEq, Int.reduceBNe, Int.reduceEq, Int.reduceGT, Int.reduceGE, Int.reduceNeg, Int.reduceAdd, Int.reduceSub, Int.reduceLT, Int.reduceLE, Int.reduceToNat, Nat.reduceLT, Nat.reducePow, Nat.reduceAdd, Nat.reduceMul, Nat.reduceLeDiff, Nat.reduceEqDiff, Nat.reduceBEq, reduceIte, ↓reduceIte, reduceCtorEq, syT, tyT, Rg.regF, Rg.findR, pickOps, fT15, Tryz.f15]
      | some w =>
        have hlt : x.toNat < v.l.length := (List.getElem?_eq_some_iff.1 hy).1
        have c3 : decide (x ≥ (v.l.length : Int)) = false := by simp; omega
        obtain ⟨vs, t', rfl, hvs⟩ := hb.list hy
        obtain ⟨u, hu, hNw⟩ := hvs.get hy
        obtain ⟨b', rfl, hb'⟩ := hNw.cells
        have hob' := hb'.one
        have c4 : (x < (v.l.length : Int)) = True := by simp; omega
        have c5 : (0 ≤ x) = True := by simp [hx0]
        simp only [Ev, Inv15, b15_0, o15_2, o15_3, o15_4, o15_6, o15_7, hn', hH, h2, h3, h8, h9, h10, hl0, hl1, hi', h0', gx, ints_len, hw, c1, c2, c3, c4, c5, hu, hvs.1, hob', evalCode, runOps, runD, runDraw, askOf, askRecs, askAll, isEff, muteOp, stepA, wantedA, isCall, target, evalOp, opMove, opPick, opAlloc, opBox, opBuild, opBuildSlice, opLoad, opStore, opNilCheck, opBinOp, opUnOp, opConvert, opMakeFunc, opMakeMap, opSlice, opFieldAddr, opField, opIndexAddr, opLookup, opExtract, opAppendB, opLenB, wrOf, appendA, appended, elemsOf, newA, eqlA, keepA, newV, evT, toA, putA, loadA, storeA, takeCells, setCells, isAgg, binA, unA, convA, arith, addOff, dstLen, nilNil, isConst, sameTy, strOp, params, results, packA, AExit.leaves, maxTmp, memN, askIn, fillA, repl, groups, Option.getD, Option.map, List.length, List.all, Int.reduceBEq, Int.reduceBNe, Int.reduceEq, Int.reduceGT, Int.reduceGE, Int.reduceNeg, Int.reduceAdd, Int.reduceSub, Int.reduceLT, Int.reduceLE, Int.reduceToNat, Nat.reduceLT, Nat.reducePow, Nat.reduceAdd, Nat.reduceMul, Nat.reduceLeDiff, Nat.reduceEqDiff, Nat.reduceBEq, reduceIte, ↓reduceIte, reduceCtorEq, syT, tyT, Rg.regF, Rg.findR, pickOps, fT15, Tryz.f15]
        exact ⟨b', rfl, hb'⟩

theorem holds15_end {call : CallF} {md : Bool} {st : St} {H : Hp} {t : Tst} {a : AVal} {v : Nd} (h : Inv15 t a v H t.path.length st) :
    Ev (env sp) call md 15 b15_0 st fun ex s => ex = .exit 0 ∧ Inv15 t a v H t.path.length s := by
  obtain ⟨hn', hH, h2, h3, h8, h9, h10, hl0, b, hl1, hb⟩ := h
  have hi' : ((t.path.length : Int) < (t.path.length : Int)) = False := by simp
  simp only [Ev, Inv15, b15_0, o15_2, hn', hH, h2, h3, h8, h9, h10, hl0, hl1, hi', evalCode, runOps, runD, runDraw, askOf, askRecs, askAll, isEff, muteOp, stepA, wantedA, isCall, target, evalOp, opMove, opPick, opAlloc, opBox, opBuild, opBuildSlice, opLoad, opStore, opNilCheck, opBinOp, opUnOp, opConvert, opMakeFunc, opMakeMap, opSlice, opFieldAddr, opField, opIndexAddr, opLookup, opExtract, opAppendB, opLenB, wrOf, appendA, appended, elemsOf, newA, eqlA, keepA, newV, evT, toA, putA, loadA, storeA, takeCells, setCells, isAgg, binA, unA, convA, arith, addOff, dstLen, nilNil, isConst, sameTy, strOp, params, results, packA, AExit.leaves, maxTmp, memN, askIn, fillA, repl, groups, Option.getD, Option.map, List.length, List.all, Int.reduceBEq, Int.reduceBNe, Int.reduceEq, Int.reduceGT, Int.reduceGE, Int.reduceNeg, Int.reduceAdd, Int.reduceSub, Int.reduceLT, Int.reduceLE, Int.reduceToNat, Nat.reduceLT, Nat.reducePow, Nat.reduceAdd, Nat.reduceMul, Nat.reduceLeDiff, Nat.reduceEqDiff, Nat.reduceBEq, reduceIte, ↓reduceIte, reduceCtorEq, syT, tyT, Rg.regF, Rg.findR, pickOps, fT15, Tryz.f15]
  exact ⟨b, rfl, hb⟩

theorem walk_snoc : ∀ (p : List Int) (q : List Int) (v : Nd), walk (p ++ q) v = (walk p v).bind (walk q)
  | [], _, _ => rfl
  | i :: p, q, v => by
    simp only [List.cons_append, walk]
    split
    · rfl
    · split
      · exact walk_snoc p q _
      · rfl

theorem holds15 {md : Bool} {k : Nat} {a b : AVal} {t : Tst} {v : Nd} {H : Hp} (h15 : sp md 15 = none) (h31 : sp md 31 = none) (ht : IsT a t) (hv : IsN v b) (hn : t.path.length < 9000) :
    evalCall (env sp) (k + 2) md 15 [a, b] H = some (.bool (holdsB t v), H) := by
  obtain ⟨p, rfl, hp⟩ := ht
  obtain ⟨c, rfl, hc⟩ := hv.cells
  have hop := hp.one
  have hoc := hc.one
  have hlp := hp.len
  have key : ∃ r, evalCall (env sp) (k + 1 + 1) md 15 [.agg [p, .int .i64 t.k, .int .i64 t.n, .str t.s, .nilslice], .agg [.int .i64 v.k, .int .i64 v.n, .str v.s, c]] H = some r ∧ (r.1 = .bool (holdsB t v) ∧ r.2 = H) := by
    refine enter15 (Post := fun v' H' => v' = .bool (holdsB t v) ∧ H' = H) h15 rfl ?_
    unfold c15
    refine Ev.seqN (Q := fun s => s.1.n = 62 ∧ s.2 = H ∧ s.1.tm.get 2 = some (.lptr 0 0) ∧ s.1.tm.get 3 = some (.lptr 1 0) ∧
      s.1.lv.get 0 = some [p, .int .i64 t.k, .int .i64 t.n, .str t.s, .nilslice] ∧ s.1.lv.get 1 = some [.int .i64 v.k, .int .i64 v.n, .str v.s, c]) ?_ ?_
    · simp only [Ev, o15_0, hop, hoc, evalCode, runOps, runD, runDraw, askOf, askRecs, askAll, isEff, muteOp, stepA, wantedA, isCall, target, evalOp, opMove, opPick, opAlloc, opBox, opBuild, opBuildSlice, opLoad, opStore, opNilCheck, opBinOp, opUnOp, opConvert, opMakeFunc, opMakeMap, opSlice, opFieldAddr, opField, opIndexAddr, opLookup, opExtract, opAppendB, opLenB, wrOf, appendA, appended, elemsOf, newA, eqlA, keepA, newV, evT, toA, putA, loadA, storeA, takeCells, setCells, isAgg, binA, unA, convA, arith, addOff, dstLen, nilNil, isConst, sameTy, strOp, params, results, packA, AExit.leaves, maxTmp, memN, askIn, fillA, repl, groups, Option.getD, Option.map, List.length, List.all, Int.reduceBEq, Int.reduceBNe, Int.reduceEq, Int.reduceGT, Int.reduceGE, Int.reduceNeg, Int.reduceAdd, Int.reduceSub, Int.reduceLT, Int.reduceLE, Int.reduceToNat, Nat.reduceLT, Nat.reducePow, Nat.reduceAdd, Nat.reduceMul, Nat.reduceLeDiff, Nat.reduceEqDiff, Nat.reduceBEq, reduceIte, ↓reduceIte, reduceCtorEq, syT, tyT, Rg.regF, Rg.findR, pickOps, fT15, Tryz.f15]
    rintro s ⟨hn', hH, h2, h3, hl0, hl1⟩
    refine Ev.seq (Q := fun ex s => (ex = .normal ∧ ∃ w, walk t.path v = some w ∧ Inv15 t p w H t.path.length s) ∨ (ex = .ret ∧ s.2 = H ∧ s.1.tm.get 4 = some (.bool false) ∧ walk t.path v = none)) ?_ ?_ ?_
    · refine Ev.seqN (Q := fun s => Inv15 t p v H 0 s) ?_ ?_
      · simp only [Ev, Inv15, o15_1, hn', hH, h2, h3, hl0, hl1, hop, hoc, ↓hlp, evalCode, runOps, runD, runDraw, askOf, askRecs, askAll, isEff, muteOp, stepA, wantedA, isCall, target, evalOp, opMove, opPick, opAlloc, opBox, opBuild, opBuildSlice, opLoad, opStore, opNilCheck, opBinOp, opUnOp, opConvert, opMakeFunc, opMakeMap, opSlice, opFieldAddr, opField, opIndexAddr, opLookup, opExtract, opAppendB, opLenB, wrOf, appendA, appended, elemsOf, newA, eqlA, keepA, newV, evT, toA, putA, loadA, storeA, takeCells, setCells, isAgg, binA, unA, convA, arith, addOff, dstLen, nilNil, isConst, sameTy, strOp, params, results, packA, AExit.leaves, maxTmp, memN, askIn, fillA, repl, groups, Option.getD, Option.map, List.length, List.all, Int.reduceBEq, Int.reduceBNe, Int.reduceEq, Int.reduceGT, Int.reduceGE, Int.reduceNeg, Int.reduceAdd, Int.reduceSub, Int.reduceLT, Int.reduceLE, Int.reduceToNat, Nat.reduceLT, Nat.reducePow, Nat.reduceAdd, Nat.reduceMul, Nat.reduceLeDiff, Nat.reduceEqDiff, Nat.reduceBEq, reduceIte, ↓reduceIte, reduceCtorEq, syT, tyT, Rg.regF, Rg.findR, pickOps, fT15, Tryz.f15]
        exact ⟨c, rfl, hc⟩
      intro s hs
      refine Ev.block (Ev.loop (Inv := fun i s => ∃ w, walk (t.path.take i) v = some w ∧ Inv15 t p w H i s) t.path.length hn ⟨v, rfl, hs⟩ fun i st hi hle => ?_)
      obtain ⟨w, hw, hi⟩ := hi
      by_cases hlt : i < t.path.length
      · obtain ⟨x, hx⟩ : ∃ x, t.path[i]? = some x := ⟨_, List.getElem?_eq_getElem hlt⟩
        obtain ⟨tok, rfl⟩ := hp.list hx
        have htk : walk (t.path.take (i + 1)) v = walk [x] w := by
          rw [List.take_add_one, hx, walk_snoc, hw]; rfl
        refine (holds15_step hi hx hn).mono fun ex s hs => ?_
        cases hwx : walk [x] w with
        | some w' =>
          rw [hwx] at hs
          exact .inl ⟨hs.1, hlt, w', by rw [htk, hwx], hs.2⟩
        | none =>
          rw [hwx] at hs
          refine .inr ⟨by rw [hs.1]; simp, .inr ⟨by rw [hs.1]; rfl, hs.2.1, hs.2.2, ?_⟩⟩
          have : walk (t.path.take (i + 1) ++ t.path.drop (i + 1)) v = none := by rw [walk_snoc, htk, hwx]; rfl
          rwa [List.take_append_drop] at this
      · have : i = t.path.length := by omega
        subst this
        rw [List.take_length] at hw
        exact (holds15_end hi).mono fun ex s hs => .inr ⟨by rw [hs.1]; simp, .inl ⟨by rw [hs.1]; rfl, w, hw, hs.2⟩⟩
    · rintro s (⟨-, w, hw, hn', hH, h2, h3, h8, h9, h10, hl0, b, hl1, hb⟩ | ⟨h, -⟩)
      · have hob := hb.one
        have hlb := hb.len
        have hh : holdsB t v = testB t w := by unfold holdsB; rw [hw]
        rw [hh]
        unfold testB
        have e31 := lit31 (sp := sp) md k h31 t.k t.n w.k w.n t.s w.s .nilslice b rfl hob H [] w.l
        have hwm : Nd.mk w.k w.n w.s w.l = w := by cases w; rfl
        rw [hwm] at e31
        rcases bool_split (t.k == 6) with c1 | c1
        · simp only [strB]
          rcases bool_split (w.k == 5) with c2 | c2
          · rcases bool_split (w.s.data.toList == t.s.data.toList) with c3 | c3
            · simp only [Ev, o15_8, o15_9, hn', hH, h2, h3, hl0, hl1, hob, ↓hlb, hop, c1, c2, c3, evalCode, runOps, runD, runDraw, askOf, askRecs, askAll, isEff, muteOp, stepA, wantedA, isCall, target, evalOp, opMove, opPick, opAlloc, opBox, opBuild, opBuildSlice, opLoad, opStore, opNilCheck, opBinOp, opUnOp, opConvert, opMakeFunc, opMakeMap, opSlice, opFieldAddr, opField, opIndexAddr, opLookup, opExtract, opAppendB, opLenB, wrOf, appendA, appended, elemsOf, newA, eqlA, keepA, newV, evT, toA, putA, loadA, storeA, takeCells, setCells, isAgg, binA, unA, convA, arith, addOff, dstLen, nilNil, isConst, sameTy, strOp, params, results, packA, AExit.leaves, maxTmp, memN, askIn, fillA, repl, groups, Option.getD, Option.map, List.length, List.all, Int.reduceBEq, Int.reduceBNe, Int.reduceEq, Int.reduceGT, Int.reduceGE, Int.reduceNeg, Int.reduceAdd, Int.reduceSub, Int.reduceLT, Int.reduceLE, Int.reduceToNat, Nat.reduceLT, Nat.reducePow, Nat.reduceAdd, Nat.reduceMul, Nat.reduceLeDiff, Nat.reduceEqDiff, Nat.reduceBEq, reduceIte, ↓reduceIte, reduceCtorEq, syT, tyT, Rg.regF, Rg.findR, pickOps, fT15, Tryz.f15]
            · simp only [Ev, o15_8, o15_9, hn', hH, h2, h3, hl0, hl1, hob, ↓hlb, hop, c1, c2, c3, evalCode, runOps, runD, runDraw, askOf, askRecs, askAll, isEff, muteOp, stepA, wantedA, isCall, target, evalOp, opMove, opPick, opAlloc, opBox, opBuild, opBuildSlice, opLoad, opStore, opNilCheck, opBinOp, opUnOp, opConvert, opMakeFunc, opMakeMap, opSlice, opFieldAddr, opField, opIndexAddr, opLookup, opExtract, opAppendB, opLenB, wrOf, appendA, appended, elemsOf, newA, eqlA, keepA, newV, evT, toA, putA, loadA, storeA, takeCells, setCells, isAgg, binA, unA, convA, arith, addOff, dstLen, nilNil, isConst, sameTy, strOp, params, results, packA, AExit.leaves, maxTmp, memN, askIn, fillA, repl, groups, Option.getD, Option.map, List.length, List.all, Int.reduceBEq, Int.reduceBNe, Int.reduceEq, Int.reduceGT, Int.reduceGE, Int.reduceNeg, Int.reduceAdd, Int.reduceSub, Int.reduceLT, Int.reduceLE, Int.reduceToNat, Nat.reduceLT, Nat.reducePow, Nat.reduceAdd, Nat.reduceMul, Nat.reduceLeDiff, Nat.reduceEqDiff, Nat.reduceBEq, reduceIte, ↓reduceIte, reduceCtorEq, syT, tyT, Rg.regF, Rg.findR, pickOps, fT15, Tryz.f15]
          · simp only [Ev, o15_8, o15_9, hn', hH, h2, h3, hl0, hl1, hob, ↓hlb, hop, c1, c2, evalCode, runOps, runD, runDraw, askOf, askRecs, askAll, isEff, muteOp, stepA, wantedA, isCall, target, evalOp, opMove, opPick, opAlloc, opBox, opBuild, opBuildSlice, opLoad, opStore, opNilCheck, opBinOp, opUnOp, opConvert, opMakeFunc, opMakeMap, opSlice, opFieldAddr, opField, opIndexAddr, opLookup, opExtract, opAppendB, opLenB, wrOf, appendA, appended, elemsOf, newA, eqlA, keepA, newV, evT, toA, putA, loadA, storeA, takeCells, setCells, isAgg, binA, unA, convA, arith, addOff, dstLen, nilNil, isConst, sameTy, strOp, params, results, packA, AExit.leaves, maxTmp, memN, askIn, fillA, repl, groups, Option.getD, Option.map, List.length, List.all, Int.reduceBEq, Int.reduceBNe, Int.reduceEq, Int.reduceGT, Int.reduceGE, Int.reduceNeg, Int.reduceAdd, Int.reduceSub, Int.reduceLT, Int.reduceLE, Int.reduceToNat, Nat.reduceLT, Nat.reducePow, Nat.reduceAdd, Nat.reduceMul, Nat.reduceLeDiff, Nat.reduceEqDiff, Nat.reduceBEq, reduceIte, ↓reduceIte, reduceCtorEq, syT, tyT, Rg.regF, Rg.findR, pickOps, fT15, Tryz.f15]
        · simp only [Ev, o15_8, o15_10, hn', hH, h2, h3, hl0, hl1, hob, ↓hlb, hop, c1, e31, evalCode, runOps, runD, runDraw, askOf, askRecs, askAll, isEff, muteOp, stepA, wantedA, isCall, target, evalOp, opMove, opPick, opAlloc, opBox, opBuild, opBuildSlice, opLoad, opStore, opNilCheck, opBinOp, opUnOp, opConvert, opMakeFunc, opMakeMap, opSlice, opFieldAddr, opField, opIndexAddr, opLookup, opExtract, opAppendB, opLenB, wrOf, appendA, appended, elemsOf, newA, eqlA, keepA, newV, evT, toA, putA, loadA, storeA, takeCells, setCells, isAgg, binA, unA, convA, arith, addOff, dstLen, nilNil, isConst, sameTy, strOp, params, results, packA, AExit.leaves, maxTmp, memN, askIn, fillA, repl, groups, Option.getD, Option.map, List.length, List.all, Int.reduceBEq, Int.reduceBNe, Int.reduceEq, Int.reduceGT, Int.reduceGE, Int.reduceNeg, Int.reduceAdd, Int.reduceSub, Int.reduceLT, Int.reduceLE, Int.reduceToNat, Nat.reduceLT, Nat.reducePow, Nat.reduceAdd, Nat.reduceMul, Nat.reduceLeDiff, Nat.reduceEqDiff, Nat.reduceBEq, reduceIte, ↓reduceIte, reduceCtorEq, syT, tyT, Rg.regF, Rg.findR, pickOps, fT15, Tryz.f15]
      · cases h
    · rintro ex s hne (⟨h, -⟩ | ⟨rfl, hH, h4, hnone⟩)
      · exact absurd h hne
      · have hh : holdsB t v = false := by unfold holdsB; rw [hnone]
        simp only [hH, h4, hh, evalCode, runOps, runD, runDraw, askOf, askRecs, askAll, isEff, muteOp, stepA, wantedA, isCall, target, evalOp, opMove, opPick, opAlloc, opBox, opBuild, opBuildSlice, opLoad, opStore, opNilCheck, opBinOp, opUnOp, opConvert, opMakeFunc, opMakeMap, opSlice, opFieldAddr, opField, opIndexAddr, opLookup, opExtract, opAppendB, opLenB, wrOf, appendA, appended, elemsOf, newA, eqlA, keepA, newV, evT, toA, putA, loadA, storeA, takeCells, setCells, isAgg, binA, unA, convA, arith, addOff, dstLen, nilNil, isConst, sameTy, strOp, params, results, packA, AExit.leaves, maxTmp, memN, askIn, fillA, repl, groups, Option.getD, Option.map, List.length, List.all, Int.reduceBEq, Int.reduceBNe, Int.reduceEq, Int.reduceGT, Int.reduceGE, Int.reduceNeg, Int.reduceAdd, Int.reduceSub, Int.reduceLT, Int.reduceLE, Int.reduceToNat, Nat.reduceLT, Nat.reducePow, Nat.reduceAdd, Nat.reduceMul, Nat.reduceLeDiff, Nat.reduceEqDiff, Nat.reduceBEq, reduceIte, ↓reduceIte, reduceCtorEq, syT, tyT, Rg.regF, Rg.findR, pickOps, fT15, Tryz.f15]
  obtain ⟨⟨r, H'⟩, h1, rfl, rfl⟩ := key
  exact h1
end
end Go.Rs.Seat
end
/- Package arms: trees, Pick. -/
section
namespace Go.Rs.Seat
open Go.Proofs Rg
set_option maxRecDepth 100000
set_option maxHeartbeats 4000000

inductive Tree where
  | leaf (arm : Int)
  | node (t : Tst) (y n : Tree)

def Tree.depth : Tree → Nat
  | .leaf _ => 0
  | .node _ y n => max y.depth n.depth + 1

def pickT : Tree → Nd → Int × Nat
  | .leaf arm, _ => (arm, 0)
  | .node t y n, v => let r := if holdsB t v then pickT y v else pickT n v; (r.1, r.2 + 1)

def IsTree : Tree → AVal → Prop
  | .leaf arm, v => v = .agg [.bool true, .int .i64 arm, .nilslice, .int .i64 0, .int .i64 0, .str ⟨#[]⟩, .nilslice, .nilslice, .nilslice]
  | .node t y n, v => ∃ a ty tn vy vn, v = .agg [.bool false, .int .i64 0, a, .int .i64 t.k, .int .i64 t.n, .str t.s, .nilslice, .list [vy] ty 9, .list [vn] tn 9] ∧ IsI a t.path ∧ IsTree y vy ∧ IsTree n vn

theorem IsTree.cells {T : Tree} {v : AVal} (h : IsTree T v) : ∃ c0 c1 c2 c3 c4 c5 c6 c7 c8, v = .agg [c0, c1, c2, c3, c4, c5, c6, c7, c8] ∧
    c0.oneCell = true ∧ c1.oneCell = true ∧ c2.oneCell = true ∧ c3.oneCell = true ∧ c4.oneCell = true ∧ c5.oneCell = true ∧ c6.oneCell = true ∧ c7.oneCell = true ∧ c8.oneCell = true := by
  cases T with
  | leaf arm => exact ⟨_, _, _, _, _, _, _, _, _, h, rfl, rfl, rfl, rfl, rfl, rfl, rfl, rfl, rfl⟩
  | node t y n =>
    obtain ⟨a, ty, tn, vy, vn, rfl, ha, -, -⟩ := h
    exact ⟨_, _, _, _, _, _, _, _, _, rfl, rfl, rfl, ha.one, rfl, rfl, rfl, rfl, rfl, rfl⟩

section
variable {sp : Bool → FuncId → Option (List AVal → Hp → Option (AVal × Hp))}

/-- the frame in which a tree is followed -/
def Inv17 (T : Tree) (v : Nd) (H : Hp) (i : Nat) (st : St) : Prop :=
  st.1.n = 31 ∧ st.2 = H ∧ st.1.tm.get 2 = some (.lptr 0 0) ∧ st.1.tm.get 3 = some (.lptr 1 0) ∧ st.1.tm.get 6 = some (.int .i64 i) ∧
    (∃ c0 c1 c2 c3 c4 c5 c6 c7 c8, st.1.lv.get 0 = some [c0, c1, c2, c3, c4, c5, c6, c7, c8] ∧ IsTree T (.agg [c0, c1, c2, c3, c4, c5, c6, c7, c8])) ∧
    ∃ b, st.1.lv.get 1 = some [.int .i64 v.k, .int .i64 v.n, .str v.s, b] ∧ IsL b v.l

theorem pick17_step {k : Nat} {md : Bool} {st : St} {H : Hp} {t : Tst} {y n : Tree} {v : Nd} {i : Nat} (h15 : sp md 15 = none) (h31 : sp md 31 = none) (h : Inv17 (.node t y n) v H i st) (hn : t.path.length < 9000) (hi : i < 2 ^ 60) :
    Ev (env sp) (evalCall (env sp) (k + 2)) md 17 b17_0 st fun ex s => ex = .normal ∧ Inv17 (if holdsB t v then y else n) v H (i + 1) s := by
  obtain ⟨hn', hH, h2, h3, h6, ⟨c0, c1, c2, c3, c4, c5, c6, c7, c8, hl0, a, ty, tn, vy, vn, he, ha, hy, hno⟩, b, hl1, hb⟩ := h
  simp only [AVal.agg.injEq, List.cons.injEq, and_true] at he
  obtain ⟨rfl, rfl, rfl, rfl, rfl, rfl, rfl, rfl, rfl⟩ := he
  have e15 : evalCall (env sp) (k + 2) md 15 [.agg [c2, .int .i64 t.k, .int .i64 t.n, .str t.s, .nilslice], .agg [.int .i64 v.k, .int .i64 v.n, .str v.s, b]] H = _ := holds15 h15 h31 ⟨c2, rfl, ha⟩ (isN_of hb) hn
  have hw : IntKind.i64.wrap ((i : Int) + 1) = ((i + 1 : Nat) : Int) := wrap_nat (by omega)
  have hoa := ha.one
  have hob := hb.one
  rcases bool_split (holdsB t v) with c | c
  · rw [c] at e15 ⊢
    obtain ⟨d0, d1, d2, d3, d4, d5, d6, d7, d8, rfl, o0, o1, o2, o3, o4, o5, o6, o7, o8⟩ := hy.cells
    simp only [Ev, Inv17, b17_0, o17_2, o17_3, o17_4, o17_5, o17_6, o17_7, o17_9, hn', hH, h2, h3, h6, hl0, hl1, e15, hw, hoa, hob, o0, o1, o2, o3, o4, o5, o6, o7, o8, evalCode, runOps, runD, runDraw, askOf, askRecs, askAll, isEff, muteOp, stepA, wantedA, isCall, target, evalOp, opMove, opPick, opAlloc, opBox, opBuild, opBuildSlice, opLoad, opStore, opNilCheck, opBinOp, opUnOp, opConvert, opMakeFunc, opMakeMap, opSlice, opFieldAddr, opField, opIndexAddr, opLookup, opExtract, opAppendB, opLenB, wrOf, appendA, appended, elemsOf, newA, eqlA, keepA, newV, evT, toA, putA, loadA, storeA, takeCells, setCells, isAgg, binA, unA, convA, arith, addOff, dstLen, nilNil, isConst, sameTy, strOp, params, results, packA, AExit.leaves, maxTmp, memN, askIn, fillA, repl, groups, Option.getD, Option.map, List.length, List.all, Int.reduceBEq, Int.reduceBNe, Int.reduceEq, Int.reduceGT, Int.reduceGE, Int.reduceNeg, Int.reduceAdd, Int.reduceSub, Int.reduceLT, Int.reduceLE, Int.reduceToNat, Nat.reduceLT, Nat.reducePow, Nat.reduceAdd, Nat.reduceMul, Nat.reduceLeDiff, Nat.reduceEqDiff, Nat.reduceBEq, reduceIte, ↓reduceIte, reduceCtorEq, syT, tyT, Rg.regF, Rg.findR, pickOps, fT17, Tryz.f17]
    exact ⟨⟨_, _, _, _, _, _, _, _, _, rfl, hy⟩, b, rfl, hb⟩
  · rw [c] at e15 ⊢
    obtain ⟨d0, d1, d2, d3, d4, d5, d6, d7, d8, rfl, o0, o1, o2, o3, o4, o5, o6, o7, o8⟩ := hno.cells
    simp only [Ev, Inv17, b17_0, o17_2, o17_3, o17_4, o17_5, o17_6, o17_7, o17_9, hn', hH, h2, h3, h6, hl0, hl1, e15, hw, hoa, hob, o0, o1, o2, o3, o4, o5, o6, o7, o8, evalCode, runOps, runD, runDraw, askOf, askRecs, askAll, isEff, muteOp, stepA, wantedA, isCall, target, evalOp, opMove, opPick, opAlloc, opBox, opBuild, opBuildSlice, opLoad, opStore, opNilCheck, opBinOp, opUnOp, opConvert, opMakeFunc, opMakeMap, opSlice, opFieldAddr, opField, opIndexAddr, opLookup, opExtract, opAppendB, opLenB, wrOf, appendA, appended, elemsOf, newA, eqlA, keepA, newV, evT, toA, putA, loadA, storeA, takeCells, setCells, isAgg, binA, unA, convA, arith, addOff, dstLen, nilNil, isConst, sameTy, strOp, params, results, packA, AExit.leaves, maxTmp, memN, askIn, fillA, repl, groups, Option.getD, Option.map, List.length, List.all, Int.reduceBEq, Int.reduceBNe, Int.reduceEq, Int.reduceGT, Int.reduceGE, Int.reduceNeg, Int.reduceAdd, Int.reduceSub, Int.reduceLT, Int.reduceLE, Int.reduceToNat, Nat.reduceLT, Nat.reducePow, Nat.reduceAdd, Nat.reduceMul, Nat.reduceLeDiff, Nat.reduceEqDiff, Nat.reduceBEq, reduceIte, ↓reduceIte, reduceCtorEq, syT, tyT, Rg.regF, Rg.findR, pickOps, fT17, Tryz.f17]
    exact ⟨⟨_, _, _, _, _, _, _, _, _, rfl, hno⟩, b, rfl, hb⟩

theorem pick17_end {call : CallF} {md : Bool} {st : St} {H : Hp} {arm : Int} {v : Nd} {i : Nat} (h : Inv17 (.leaf arm) v H i st) :
    Ev (env sp) call md 17 b17_0 st fun ex s => ex = .exit 0 ∧ Inv17 (.leaf arm) v H i s := by
  obtain ⟨hn', hH, h2, h3, h6, ⟨c0, c1, c2, c3, c4, c5, c6, c7, c8, hl0, he⟩, b, hl1, hb⟩ := h
  have he' := he
  simp only [IsTree, AVal.agg.injEq, List.cons.injEq, and_true] at he
  obtain ⟨rfl, rfl, rfl, rfl, rfl, rfl, rfl, rfl, rfl⟩ := he
  simp only [Ev, Inv17, b17_0, o17_2, hn', hH, h2, h3, h6, hl0, hl1, evalCode, runOps, runD, runDraw, askOf, askRecs, askAll, isEff, muteOp, stepA, wantedA, isCall, target, evalOp, opMove, opPick, opAlloc, opBox, opBuild, opBuildSlice, opLoad, opStore, opNilCheck, opBinOp, opUnOp, opConvert, opMakeFunc, opMakeMap, opSlice, opFieldAddr, opField, opIndexAddr, opLookup, opExtract, opAppendB, opLenB, wrOf, appendA, appended, elemsOf, newA, eqlA, keepA, newV, evT, toA, putA, loadA, storeA, takeCells, setCells, isAgg, binA, unA, convA, arith, addOff, dstLen, nilNil, isConst, sameTy, strOp, params, results, packA, AExit.leaves, maxTmp, memN, askIn, fillA, repl, groups, Option.getD, Option.map, List.length, List.all, Int.reduceBEq, Int.reduceBNe, Int.reduceEq, Int.reduceGT, Int.reduceGE, Int.reduceNeg, Int.reduceAdd, Int.reduceSub, Int.reduceLT, Int.reduceLE, Int.reduceToNat, Nat.reduceLT, Nat.reducePow, Nat.reduceAdd, Nat.reduceMul, Nat.reduceLeDiff, Nat.reduceEqDiff, Nat.reduceBEq, reduceIte, ↓reduceIte, reduceCtorEq, syT, tyT, Rg.regF, Rg.findR, pickOps, fT17, Tryz.f17]
  exact ⟨⟨_, _, _, _, _, _, _, _, _, rfl, he'⟩, b, rfl, hb⟩

/-- all paths of tests are short -/
def Tree.okT : Tree → Prop
  | .leaf _ => True
  | .node t y n => t.path.length < 9000 ∧ y.okT ∧ n.okT

theorem pick17 {md : Bool} {k : Nat} {a b : AVal} {T : Tree} {v : Nd} {H : Hp} (h17 : sp md 17 = none) (h15 : sp md 15 = none) (h31 : sp md 31 = none) (ht : IsTree T a) (hv : IsN v b) (hok : T.okT) (hd : T.depth < 9000) :
    evalCall (env sp) (k + 3) md 17 [a, b] H = some (.tuple [.int .i64 (pickT T v).1, .int .i64 (pickT T v).2], H) := by
  obtain ⟨c, rfl, hc⟩ := hv.cells
  have hoc := hc.one
  obtain ⟨d0, d1, d2, d3, d4, d5, d6, d7, d8, rfl, o0, o1, o2, o3, o4, o5, o6, o7, o8⟩ := ht.cells
  have key : ∃ r, evalCall (env sp) (k + 2 + 1) md 17 [.agg [d0, d1, d2, d3, d4, d5, d6, d7, d8], .agg [.int .i64 v.k, .int .i64 v.n, .str v.s, c]] H = some r ∧ (r.1 = .tuple [.int .i64 (pickT T v).1, .int .i64 (pickT T v).2] ∧ r.2 = H) := by
    refine enter17 (Post := fun v' H' => v' = .tuple [.int .i64 (pickT T v).1, .int .i64 (pickT T v).2] ∧ H' = H) h17 rfl ?_
    unfold c17
    refine Ev.seqN (Q := fun s => s.1.n = 31 ∧ s.2 = H ∧ s.1.tm.get 2 = some (.lptr 0 0) ∧ s.1.tm.get 3 = some (.lptr 1 0) ∧
      s.1.lv.get 0 = some [d0, d1, d2, d3, d4, d5, d6, d7, d8] ∧ s.1.lv.get 1 = some [.int .i64 v.k, .int .i64 v.n, .str v.s, c]) ?_ ?_
    · simp only [Ev, o17_0, hoc, o0, o1, o2, o3, o4, o5, o6, o7, o8, evalCode, runOps, runD, runDraw, askOf, askRecs, askAll, isEff, muteOp, stepA, wantedA, isCall, target, evalOp, opMove, opPick, opAlloc, opBox, opBuild, opBuildSlice, opLoad, opStore, opNilCheck, opBinOp, opUnOp, opConvert, opMakeFunc, opMakeMap, opSlice, opFieldAddr, opField, opIndexAddr, opLookup, opExtract, opAppendB, opLenB, wrOf, appendA, appended, elemsOf, newA, eqlA, keepA, newV, evT, toA, putA, loadA, storeA, takeCells, setCells, isAgg, binA, unA, convA, arith, addOff, dstLen, nilNil, isConst, sameTy, strOp, params, results, packA, AExit.leaves, maxTmp, memN, askIn, fillA, repl, groups, Option.getD, Option.map, List.length, List.all, Int.reduceBEq, Int.reduceBNe, Int.reduceEq, Int.reduceGT, Int.reduceGE, Int.reduceNeg, Int.reduceAdd, Int.reduceSub, Int.reduceLT, Int.reduceLE, Int.reduceToNat, Nat.reduceLT, Nat.reducePow, Nat.reduceAdd, Nat.reduceMul, Nat.reduceLeDiff, Nat.reduceEqDiff, Nat.reduceBEq, reduceIte, ↓reduceIte, reduceCtorEq, syT, tyT, Rg.regF, Rg.findR, pickOps, fT17, Tryz.f17]
    rintro s ⟨hn', hH, h2, h3, hl0, hl1⟩
    refine Ev.seqN (Q := fun s => Inv17 T v H 0 s) ?_ ?_
    · simp only [Ev, Inv17, o17_1, hn', hH, h2, h3, hl0, hl1, evalCode, runOps, runD, runDraw, askOf, askRecs, askAll, isEff, muteOp, stepA, wantedA, isCall, target, evalOp, opMove, opPick, opAlloc, opBox, opBuild, opBuildSlice, opLoad, opStore, opNilCheck, opBinOp, opUnOp, opConvert, opMakeFunc, opMakeMap, opSlice, opFieldAddr, opField, opIndexAddr, opLookup, opExtract, opAppendB, opLenB, wrOf, appendA, appended, elemsOf, newA, eqlA, keepA, newV, evT, toA, putA, loadA, storeA, takeCells, setCells, isAgg, binA, unA, convA, arith, addOff, dstLen, nilNil, isConst, sameTy, strOp, params, results, packA, AExit.leaves, maxTmp, memN, askIn, fillA, repl, groups, Option.getD, Option.map, List.length, List.all, Int.reduceBEq, Int.reduceBNe, Int.reduceEq, Int.reduceGT, Int.reduceGE, Int.reduceNeg, Int.reduceAdd, Int.reduceSub, Int.reduceLT, Int.reduceLE, Int.reduceToNat, Nat.reduceLT, Nat.reducePow, Nat.reduceAdd, Nat.reduceMul, Nat.reduceLeDiff, Nat.reduceEqDiff, Nat.reduceBEq, reduceIte, ↓reduceIte, reduceCtorEq, syT, tyT, Rg.regF, Rg.findR, pickOps, fT17, Tryz.f17]
      exact ⟨⟨_, _, _, _, _, _, _, _, _, rfl, ht⟩, c, rfl, hc⟩
    intro s hs
    refine Ev.seqN (Q := fun s => ∃ arm, arm = (pickT T v).1 ∧ Inv17 (.leaf arm) v H (pickT T v).2 s) ?_ ?_
    · refine Ev.block (Ev.loop (Inv := fun i s => ∃ T', (pickT T v).1 = (pickT T' v).1 ∧ (pickT T v).2 = (pickT T' v).2 + i ∧ T'.depth + i ≤ T.depth ∧ T'.okT ∧ Inv17 T' v H i s) T.depth hd ⟨T, rfl, rfl, Nat.le_refl _, hok, hs⟩ fun i st hi hle => ?_)
      obtain ⟨T', p1, p2, hdep, hok', hi⟩ := hi
      cases T' with
      | leaf arm =>
        refine (pick17_end hi).mono fun ex s hs => .inr ⟨by rw [hs.1]; simp, ?_⟩
        refine ⟨by rw [hs.1]; rfl, arm, p1.symm, ?_⟩
        rw [p2]
        simpa [pickT] using hs.2
      | node t y n =>
        rw [show (Tree.node t y n).depth = max y.depth n.depth + 1 from rfl] at hdep
        refine (pick17_step h15 h31 hi hok'.1 (by omega)).mono fun ex s hs => .inl ⟨hs.1, by omega, ?_⟩
        refine ⟨_, ?_, ?_, ?_, ?_, hs.2⟩
        · rw [p1]; simp only [pickT]; split <;> rfl
        · rw [p2]; simp only [pickT]; split <;> omega
        · split <;> omega
        · split
          · exact hok'.2.1
          · exact hok'.2.2
    rintro s ⟨arm, harm, hn', hH, h2, h3, h6, ⟨c0, c1, c2, c3, c4, c5, c6, c7, c8, hl0, he⟩, b, hl1, hb⟩
    simp only [IsTree, AVal.agg.injEq, List.cons.injEq, and_true] at he
    obtain ⟨rfl, rfl, rfl, rfl, rfl, rfl, rfl, rfl, rfl⟩ := he
    simp only [Ev, o17_10, hn', hH, h2, h3, h6, hl0, hl1, harm, evalCode, runOps, runD, runDraw, askOf, askRecs, askAll, isEff, muteOp, stepA, wantedA, isCall, target, evalOp, opMove, opPick, opAlloc, opBox, opBuild, opBuildSlice, opLoad, opStore, opNilCheck, opBinOp, opUnOp, opConvert, opMakeFunc, opMakeMap, opSlice, opFieldAddr, opField, opIndexAddr, opLookup, opExtract, opAppendB, opLenB, wrOf, appendA, appended, elemsOf, newA, eqlA, keepA, newV, evT, toA, putA, loadA, storeA, takeCells, setCells, isAgg, binA, unA, convA, arith, addOff, dstLen, nilNil, isConst, sameTy, strOp, params, results, packA, AExit.leaves, maxTmp, memN, askIn, fillA, repl, groups, Option.getD, Option.map, List.length, List.all, Int.reduceBEq, Int.reduceBNe, Int.reduceEq, Int.reduceGT, Int.reduceGE, Int.reduceNeg, Int.reduceAdd, Int.reduceSub, Int.reduceLT, Int.reduceLE, Int.reduceToNat, Nat.reduceLT, Nat.reducePow, Nat.reduceAdd, Nat.reduceMul, Nat.reduceLeDiff, Nat.reduceEqDiff, Nat.reduceBEq, reduceIte, ↓reduceIte, reduceCtorEq, syT, tyT, Rg.regF, Rg.findR, pickOps, fT17, Tryz.f17]
  obtain ⟨⟨r, H'⟩, h1, rfl, rfl⟩ := key
  exact h1
end
end Go.Rs.Seat
end
/- Slices that grow; copies of values. -/
section
namespace Go.Rs.Seat
open Go.Proofs Rg
set_option maxRecDepth 100000
set_option maxHeartbeats 4000000

/-- a slice that may grow: what its end stands on was made behind B -/
def Gr (B sz : Nat) (a : AVal) (H : Hp) : Prop := a = .nilslice ∨ ∃ vs t, a = .list vs (.own t) sz ∧ H.get t = .tok ∧ B ≤ t ∧ t < H.next

theorem Gr.nil {B sz H} : Gr B sz .nilslice H := .inl rfl
theorem Gr.one {B sz a H} (h : Gr B sz a H) : a.oneCell = true := by
  rcases h with rfl | ⟨vs, t, rfl, -⟩ <;> rfl

theorem Gr.keep {B sz a H H'} (h : Gr B sz a H) (hn : H.next ≤ H'.next) (hk : ∀ i < H.next, H'.get i = H.get i) : Gr B sz a H' := by
  rcases h with rfl | ⟨vs, t, rfl, h1, h2, h3⟩
  · exact .inl rfl
  · exact .inr ⟨vs, t, rfl, by rw [hk t h3]; exact h1, h2, by omega⟩

theorem app_gr {α : Type} {P : AVal → α → Prop} {E : Env} {T e sz B : Nat} {H : Hp} {a : AVal} {l m : List α} {ys : List AVal} {tk : Tok} (hT : (E.ty T).u = .slice e) (he : ((E.ty e).ok && (E.ty e).zok && decide ((E.ty e).bytes < 4096)) = true) (hsz : (E.ty e).size = sz)
    (hg : Gr B sz a H) (ha : IsS P sz a l) (hy : AllP P ys m) (hne : ys ≠ []) (hn : H.next < 4096) (hB : B ≤ H.next) (hl : l.length + m.length < 100000) :
    ∃ r H', appendA E false T T H a (.list ys tk sz) = some (r, H') ∧ IsS P sz r (l ++ m) ∧ Gr B sz r H' ∧ H'.next = H.next + 1 ∧ ∀ i < B, H'.get i = H.get i := by
  have hap : appended E e T H (.list ys tk sz) = some ys := by
    unfold appended
    rw [hT]
    simp only [elemsOf, hsz, if_true]
  obtain ⟨y, ys', rfl⟩ : ∃ y ys', ys = y :: ys' := List.exists_cons_of_ne_nil hne
  have hmr : maxRow = 4294967296 := rfl
  have hmt : maxTmp = 4096 := rfl
  have hyl := hy.1
  rcases hg with rfl | ⟨vs, t, rfl, h1, h2, h3⟩
  · have hl0 : l = [] := by
      rcases ha with ⟨-, h⟩ | ⟨vs, t, h, -⟩
      · exact h
      · cases h
    subst hl0
    refine ⟨.list (y :: ys') (.own H.next) sz, (H.alloc .tok).2, ?_, .inr ⟨_, _, rfl, by simpa using hy⟩, .inr ⟨_, _, rfl, ?_, hB, by simp [alN]⟩, rfl, fun i hi => ?_⟩
    · unfold appendA
      simp only [hT, hap, he, if_true, Bool.false_eq_true, if_false, newA, al1, hsz]
      rw [if_pos (by rw [hyl, hmr]; simp at hl; omega), if_pos (by omega)]
    · rw [hnew hn, if_pos rfl]
    · rw [hnew hn, if_neg (by omega)]
  · obtain ⟨vs', t', he', hvs⟩ : ∃ vs' t', AVal.list vs (.own t) sz = .list vs' t' sz ∧ AllP P vs' l := by
      rcases ha with ⟨h, -⟩ | h
      · cases h
      · exact h
    injection he' with he1 he2
    subst he1
    refine ⟨.list (vs ++ y :: ys') (.own H.next) sz, ((H.set t .dead).alloc .tok).2, ?_, .inr ⟨_, _, rfl, hvs.append hy⟩, .inr ⟨_, _, rfl, ?_, hB, by simp [alN, stN]⟩, rfl, fun i hi => ?_⟩
    · unfold appendA
      simp only [hT, hap, he, if_true, hsz, h1]
      rw [if_pos ⟨trivial, by rw [hyl, hvs.1, hmr]; omega⟩]
      exact if_pos (show H.next < maxTmp by omega)
    · rw [hnew (by rw [stN]; exact hn), stN, if_pos rfl]
    · rw [hnew (by rw [stN]; exact hn), stN, if_neg (by omega), hget (by omega), if_neg (by omega)]

mutual
def Nd.size : Nd → Nat
  | .mk _ _ _ l => 1 + Nd.sizes l
def Nd.sizes : List Nd → Nat
  | [] => 0
  | x :: l => x.size + Nd.sizes l
end

theorem size_eq (x : Nd) : x.size = 1 + Nd.sizes x.l := by cases x; simp [Nd.size, Nd.l]
theorem sizes_get : ∀ {l : List Nd} {i : Nat} {x : Nd}, l[i]? = some x → Nd.sizes (l.take (i + 1)) = Nd.sizes (l.take i) + x.size
  | [], i, x, h => by simp at h
  | y :: l, 0, x, h => by simp at h; subst h; simp [Nd.sizes]
  | y :: l, i + 1, x, h => by
    have := sizes_get (l := l) (i := i) (x := x) (by simpa using h)
    simp only [List.take_succ_cons, Nd.sizes]
    omega
theorem sizes_take : ∀ (l : List Nd) (i : Nat), Nd.sizes (l.take i) ≤ Nd.sizes l
  | [], i => by simp
  | y :: l, 0 => by simp [Nd.sizes]
  | y :: l, i + 1 => by simp only [List.take_succ_cons, Nd.sizes]; have := sizes_take l i; omega
theorem size_pos (x : Nd) : 0 < x.size := by rw [size_eq]; omega
theorem sizes_len : ∀ (l : List Nd), l.length ≤ Nd.sizes l
  | [] => by simp [Nd.sizes]
  | x :: l => by have := sizes_len l; have := size_pos x; simp [Nd.sizes]; omega
theorem size_mem {l : List Nd} {i : Nat} {x : Nd} (h : l[i]? = some x) : x.size ≤ Nd.sizes l := by
  have h1 := sizes_get h
  have h2 := sizes_take l (i + 1)
  omega

theorem IsN_agg {x : Nd} {b : AVal} : IsN x (.agg [.int .i64 x.k, .int .i64 x.n, .str x.s, b]) ↔ IsL b x.l := by
  constructor
  · intro h
    obtain ⟨a, he, ha⟩ := h.cells
    simp at he
    rw [he]; exact ha
  · exact isN_of

section
variable {sp : Bool → FuncId → Option (List AVal → Hp → Option (AVal × Hp))}

def Inv75 (a f : AVal) (l : List Nd) (H0 : Hp) (i : Nat) (st : St) : Prop :=
  st.1.n = 22 ∧ st.1.tm.get 1 = some f ∧ st.1.tm.get 8 = some a ∧ st.1.tm.get 9 = some (.int .i64 l.length) ∧ st.1.tm.get 10 = some (.int .i64 i) ∧ st.1.lv.next = i ∧
    (∃ o, st.1.tm.get 5 = some o ∧ IsL o (l.take i) ∧ Gr H0.next 4 o st.2) ∧ H0.next ≤ st.2.next ∧ st.2.next ≤ H0.next + Nd.sizes (l.take i) ∧ ∀ j < H0.next, st.2.get j = H0.get j

/-- the copy of a value -/
def ValOk (sp : Bool → FuncId → Option (List AVal → Hp → Option (AVal × Hp))) (x : Nd) : Prop := ∀ k, 2 * x.size ≤ k → ∀ (md : Bool) (v : AVal) (H : Hp), IsN x v → H.next + x.size ≤ 4000 →
  ∃ r H', evalCall (env sp) k false 76 [v] H = some (r, H') ∧ IsN x r ∧ H.next ≤ H'.next ∧ H'.next + 1 ≤ H.next + x.size ∧ ∀ j < H.next, H'.get j = H.get j

theorem each75_step {k : Nat} {st : St} {H0 : Hp} {l : List Nd} {vs : List AVal} {tok : Tok} {i : Nat} {x : Nd} {v : AVal} (hx : l[i]? = some x) (hv : vs[i]? = some v) (hvs : vs.length = l.length) (hN : IsN x v) (hval : ValOk sp x) (hk : 2 * x.size ≤ k)
    (h : Inv75 (.list vs tok 4) (.func (.func 76) [] []) l H0 i st) (hs : H0.next + Nd.sizes l ≤ 4000) :
    Ev (env sp) (evalCall (env sp) k) false 75 b75_0 st fun ex s => ex = .normal ∧ Inv75 (.list vs tok 4) (.func (.func 76) [] []) l H0 (i + 1) s := by
  obtain ⟨hn', h1, h8, h9, h10, hln, ⟨o, h5, ho, hgo⟩, hHn, hHs, hfr⟩ := h
  have hi : i < l.length := (List.getElem?_eq_some_iff.1 hx).1
  have hsz := sizes_get hx
  have hst := sizes_take l (i + 1)
  have hll := sizes_len l
  obtain ⟨b, rfl, hb⟩ := hN.cells
  obtain ⟨r, H1, e76, hr, hr1, hr2, hr3⟩ := hval k hk false _ st.2 hN (by omega)
  obtain ⟨c, rfl, hc⟩ := hr.cells
  have hob := hb.one
  have hoc := hc.one
  have hoo := hgo.one
  obtain ⟨o', H2, eap, ho', hgo', hn2, hf2⟩ := app_gr (P := fun v x => IsN x v) (E := env sp) (T := 27) (e := 29) (sz := 4) (tk := .full) (by rw [ty27]) (by rw [ty29]; decide) (by rw [ty29]) (hgo.keep hr1 hr3) ho (AllP.cons hr AllP.nil) (by simp) (by omega) (by omega) (by simp; omega)
  have hoo' := hgo'.one
  have hi' : ((i : Int) < (l.length : Int)) = True := by simp [hi]
  have h0' : (0 ≤ (i : Int)) = True := by simp
  have hw : IntKind.i64.wrap ((i : Int) + 1) = ((i + 1 : Nat) : Int) := wrap_nat (by omega)
  have hlv : (i < 4096) = True := by simp; omega
  simp only [Ev, Inv75, b75_0, o75_3, o75_4, o75_5, o75_6, hn', h1, h5, h8, h9, h10, hln, hi', h0', hv, hvs, hlv, e76, eap, hw, hob, hoc, hoo, hoo', evalCode, runOps, runD, runDraw, askOf, askRecs, askAll, isEff, muteOp, stepA, wantedA, isCall, target, evalOp, opMove, opPick, opAlloc, opBox, opBuild, opBuildSlice, opLoad, opStore, opNilCheck, opBinOp, opUnOp, opConvert, opMakeFunc, opMakeMap, opSlice, opFieldAddr, opField, opIndexAddr, opLookup, opExtract, opAppendB, opLenB, wrOf, newA, eqlA, keepA, newV, evT, toA, putA, loadA, storeA, takeCells, setCells, isAgg, binA, unA, convA, arith, addOff, dstLen, nilNil, isConst, sameTy, strOp, params, results, packA, AExit.leaves, maxTmp, memN, askIn, fillA, repl, groups, Option.getD, Option.map, List.length, List.all, Int.reduceBEq, Int.reduceBNe, Int.reduceEq, Int.reduceGT, Int.reduceGE, Int.reduceNeg, Int.reduceAdd, Int.reduceSub, Int.reduceLT, Int.reduceLE, Int.reduceToNat, Nat.reduceLT, Nat.reducePow, Nat.reduceAdd, Nat.reduceMul, Nat.reduceLeDiff, Nat.reduceEqDiff, Nat.reduceBEq, reduceIte, ↓reduceIte, reduceCtorEq, syT, tyT, Rg.regF, Rg.findR, pickOps, fT75, Tryz.f75]
  refine ⟨⟨?_, hgo'⟩, by omega, by omega, fun j hj => ?_⟩
  · rw [List.take_add_one, hx]; exact ho'
  · rw [hf2 j hj, hr3 j (by omega), hfr j hj]

theorem each75_end {call : CallF} {md : Bool} {st : St} {a f : AVal} {l : List Nd} {H0 : Hp} (h : Inv75 a f l H0 l.length st) :
    Ev (env sp) call md 75 b75_0 st fun ex s => ex = .exit 0 ∧ Inv75 a f l H0 l.length s := by
  obtain ⟨hn', h1, h8, h9, h10, hln, ⟨o, h5, ho, hgo⟩, hHn, hHs, hfr⟩ := h
  have hi' : ((l.length : Int) < (l.length : Int)) = False := by simp
  simp only [Ev, Inv75, b75_0, o75_3, hn', h1, h5, h8, h9, h10, hln, hi', evalCode, runOps, runD, runDraw, askOf, askRecs, askAll, isEff, muteOp, stepA, wantedA, isCall, target, evalOp, opMove, opPick, opAlloc, opBox, opBuild, opBuildSlice, opLoad, opStore, opNilCheck, opBinOp, opUnOp, opConvert, opMakeFunc, opMakeMap, opSlice, opFieldAddr, opField, opIndexAddr, opLookup, opExtract, opAppendB, opLenB, wrOf, newA, eqlA, keepA, newV, evT, toA, putA, loadA, storeA, takeCells, setCells, isAgg, binA, unA, convA, arith, addOff, dstLen, nilNil, isConst, sameTy, strOp, params, results, packA, AExit.leaves, maxTmp, memN, askIn, fillA, repl, groups, Option.getD, Option.map, List.length, List.all, Int.reduceBEq, Int.reduceBNe, Int.reduceEq, Int.reduceGT, Int.reduceGE, Int.reduceNeg, Int.reduceAdd, Int.reduceSub, Int.reduceLT, Int.reduceLE, Int.reduceToNat, Nat.reduceLT, Nat.reducePow, Nat.reduceAdd, Nat.reduceMul, Nat.reduceLeDiff, Nat.reduceEqDiff, Nat.reduceBEq, reduceIte, ↓reduceIte, reduceCtorEq, syT, tyT, Rg.regF, Rg.findR, pickOps, fT75, Tryz.f75]
  exact ⟨⟨ho, hgo⟩, hHn, hHs, hfr⟩

theorem each75 {k : Nat} {a : AVal} {l : List Nd} {H : Hp} (h75 : sp false 75 = none) (ha : IsL a l) (hval : ∀ x ∈ l, ValOk sp x) (hk : 2 * Nd.sizes l ≤ k) (hs : H.next + Nd.sizes l ≤ 4000) :
    ∃ r H', evalCall (env sp) (k + 1) false 75 [a, .func (.func 76) [] []] H = some (r, H') ∧ IsL r l ∧ H.next ≤ H'.next ∧ H'.next ≤ H.next + Nd.sizes l ∧ ∀ j < H.next, H'.get j = H.get j := by
  have hoa := ha.one
  have hla := ha.len
  have hll := sizes_len l
  have key : ∃ r, evalCall (env sp) (k + 1) false 75 [a, .func (.func 76) [] []] H = some r ∧ (IsL r.1 l ∧ H.next ≤ r.2.next ∧ r.2.next ≤ H.next + Nd.sizes l ∧ ∀ j < H.next, r.2.get j = H.get j) := by
    refine enter75 (Post := fun v H' => IsL v l ∧ H.next ≤ H'.next ∧ H'.next ≤ H.next + Nd.sizes l ∧ ∀ j < H.next, H'.get j = H.get j) h75 rfl ?_
    unfold c75
    refine Ev.seqN (Q := fun s => s.1.n = 22 ∧ s.2 = H ∧ s.1.tm.get 0 = some a ∧ s.1.tm.get 1 = some (.func (.func 76) [] []) ∧ s.1.lv.next = 0) ?_ ?_
    · simp only [Ev, o75_0, hoa, evalCode, runOps, runD, runDraw, askOf, askRecs, askAll, isEff, muteOp, stepA, wantedA, isCall, target, evalOp, opMove, opPick, opAlloc, opBox, opBuild, opBuildSlice, opLoad, opStore, opNilCheck, opBinOp, opUnOp, opConvert, opMakeFunc, opMakeMap, opSlice, opFieldAddr, opField, opIndexAddr, opLookup, opExtract, opAppendB, opLenB, wrOf, newA, eqlA, keepA, newV, evT, toA, putA, loadA, storeA, takeCells, setCells, isAgg, binA, unA, convA, arith, addOff, dstLen, nilNil, isConst, sameTy, strOp, params, results, packA, AExit.leaves, maxTmp, memN, askIn, fillA, repl, groups, Option.getD, Option.map, List.length, List.all, Int.reduceBEq, Int.reduceBNe, Int.reduceEq, Int.reduceGT, Int.reduceGE, Int.reduceNeg, Int.reduceAdd, Int.reduceSub, Int.reduceLT, Int.reduceLE, Int.reduceToNat, Nat.reduceLT, Nat.reducePow, Nat.reduceAdd, Nat.reduceMul, Nat.reduceLeDiff, Nat.reduceEqDiff, Nat.reduceBEq, reduceIte, ↓reduceIte, reduceCtorEq, syT, tyT, Rg.regF, Rg.findR, pickOps, fT75, Tryz.f75]
    rintro s ⟨hn', hH, h0, h1, hln⟩
    refine Ev.seqN (Q := fun s => s.1.n = 22 ∧ s.2 = H ∧ s.1.tm.get 0 = some a ∧ s.1.tm.get 1 = some (.func (.func 76) [] []) ∧ s.1.lv.next = 0 ∧ s.1.tm.get 5 = some .nilslice) ?_ ?_
    · simp only [Ev, o75_1, hn', hH, h0, h1, hln, hoa, evalCode, runOps, runD, runDraw, askOf, askRecs, askAll, isEff, muteOp, stepA, wantedA, isCall, target, evalOp, opMove, opPick, opAlloc, opBox, opBuild, opBuildSlice, opLoad, opStore, opNilCheck, opBinOp, opUnOp, opConvert, opMakeFunc, opMakeMap, opSlice, opFieldAddr, opField, opIndexAddr, opLookup, opExtract, opAppendB, opLenB, wrOf, newA, eqlA, keepA, newV, evT, toA, putA, loadA, storeA, takeCells, setCells, isAgg, binA, unA, convA, arith, addOff, dstLen, nilNil, isConst, sameTy, strOp, params, results, packA, AExit.leaves, maxTmp, memN, askIn, fillA, repl, groups, Option.getD, Option.map, List.length, List.all, Int.reduceBEq, Int.reduceBNe, Int.reduceEq, Int.reduceGT, Int.reduceGE, Int.reduceNeg, Int.reduceAdd, Int.reduceSub, Int.reduceLT, Int.reduceLE, Int.reduceToNat, Nat.reduceLT, Nat.reducePow, Nat.reduceAdd, Nat.reduceMul, Nat.reduceLeDiff, Nat.reduceEqDiff, Nat.reduceBEq, reduceIte, ↓reduceIte, reduceCtorEq, syT, tyT, Rg.regF, Rg.findR, pickOps, fT75, Tryz.f75]
    rintro s ⟨hn', hH, h0, h1, hln, h5⟩
    refine Ev.seqN (Q := fun s => Inv75 a (.func (.func 76) [] []) l H l.length s) ?_ ?_
    · refine Ev.seqN (Q := fun s => Inv75 a (.func (.func 76) [] []) l H 0 s) ?_ ?_
      · simp only [Ev, Inv75, o75_2, hn', hH, h0, h1, hln, h5, hoa, ↓hla, evalCode, runOps, runD, runDraw, askOf, askRecs, askAll, isEff, muteOp, stepA, wantedA, isCall, target, evalOp, opMove, opPick, opAlloc, opBox, opBuild, opBuildSlice, opLoad, opStore, opNilCheck, opBinOp, opUnOp, opConvert, opMakeFunc, opMakeMap, opSlice, opFieldAddr, opField, opIndexAddr, opLookup, opExtract, opAppendB, opLenB, wrOf, newA, eqlA, keepA, newV, evT, toA, putA, loadA, storeA, takeCells, setCells, isAgg, binA, unA, convA, arith, addOff, dstLen, nilNil, isConst, sameTy, strOp, params, results, packA, AExit.leaves, maxTmp, memN, askIn, fillA, repl, groups, Option.getD, Option.map, List.length, List.all, Int.reduceBEq, Int.reduceBNe, Int.reduceEq, Int.reduceGT, Int.reduceGE, Int.reduceNeg, Int.reduceAdd, Int.reduceSub, Int.reduceLT, Int.reduceLE, Int.reduceToNat, Nat.reduceLT, Nat.reducePow, Nat.reduceAdd, Nat.reduceMul, Nat.reduceLeDiff, Nat.reduceEqDiff, Nat.reduceBEq, reduceIte, ↓reduceIte, reduceCtorEq, syT, tyT, Rg.regF, Rg.findR, pickOps, fT75, Tryz.f75]
        exact ⟨⟨.inl ⟨rfl, rfl⟩, .nil⟩, by simp [Nd.sizes], fun _ _ => trivial⟩
      intro s hs'
      refine Ev.block (Ev.loop (Inv := fun i s => Inv75 a (.func (.func 76) [] []) l H i s) l.length (by omega) hs' fun i st hi hle => ?_)
      by_cases hlt : i < l.length
      · obtain ⟨x, hx⟩ : ∃ x, l[i]? = some x := ⟨_, List.getElem?_eq_getElem hlt⟩
        obtain ⟨vs, tok, rfl, hvs⟩ := ha.list hx
        obtain ⟨v, hv, hN⟩ := hvs.get hx
        have := size_mem hx
        exact (each75_step hx hv hvs.1 hN (hval x (List.mem_iff_getElem?.2 ⟨i, hx⟩)) (by omega) hi hs).mono fun ex s hs => .inl ⟨hs.1, hlt, hs.2⟩
      · have : i = l.length := by omega
        subst this
        exact (each75_end hi).mono fun ex s hs => .inr ⟨by rw [hs.1]; simp, by rw [hs.1]; rfl, hs.2⟩
    rintro s ⟨hn', h1, h8, h9, h10, hln, ⟨o, h5, ho, hgo⟩, hHn, hHs, hfr⟩
    have hoo := hgo.one
    rw [List.take_length] at ho hHs
    simp only [Ev, o75_7, hn', h5, hoo, evalCode, runOps, runD, runDraw, askOf, askRecs, askAll, isEff, muteOp, stepA, wantedA, isCall, target, evalOp, opMove, opPick, opAlloc, opBox, opBuild, opBuildSlice, opLoad, opStore, opNilCheck, opBinOp, opUnOp, opConvert, opMakeFunc, opMakeMap, opSlice, opFieldAddr, opField, opIndexAddr, opLookup, opExtract, opAppendB, opLenB, wrOf, newA, eqlA, keepA, newV, evT, toA, putA, loadA, storeA, takeCells, setCells, isAgg, binA, unA, convA, arith, addOff, dstLen, nilNil, isConst, sameTy, strOp, params, results, packA, AExit.leaves, maxTmp, memN, askIn, fillA, repl, groups, Option.getD, Option.map, List.length, List.all, Int.reduceBEq, Int.reduceBNe, Int.reduceEq, Int.reduceGT, Int.reduceGE, Int.reduceNeg, Int.reduceAdd, Int.reduceSub, Int.reduceLT, Int.reduceLE, Int.reduceToNat, Nat.reduceLT, Nat.reducePow, Nat.reduceAdd, Nat.reduceMul, Nat.reduceLeDiff, Nat.reduceEqDiff, Nat.reduceBEq, reduceIte, ↓reduceIte, reduceCtorEq, syT, tyT, Rg.regF, Rg.findR, pickOps, fT75, Tryz.f75]
    exact ⟨ho, hHn, hHs, hfr⟩
  obtain ⟨⟨v, H'⟩, h1, h2⟩ := key
  exact ⟨v, H', h1, h2⟩

theorem value76 (h75 : sp false 75 = none) (h76 : sp false 76 = none) : ∀ (N : Nat) (x : Nd), x.size ≤ N → ValOk sp x
  | 0, x, h => absurd h (by have := size_pos x; omega)
  | N + 1, x, h => by
    intro k hk md v H hN hH
    have hsz := size_eq x
    obtain ⟨b, rfl, hb⟩ := hN.cells
    have hob := hb.one
    obtain ⟨k', rfl⟩ : ∃ k', k = k' + 1 + 1 := ⟨k - 2, by omega⟩
    obtain ⟨r, H', e75, hr, hn1, hn2, hf⟩ := each75 (k := k') (H := H) h75 hb (fun y hy => by
      obtain ⟨i, hi⟩ := List.mem_iff_getElem?.1 hy
      have := size_mem hi
      exact value76 h75 h76 N y (by omega)) (by omega) (by omega)
    have hor := hr.one
    have key : evalCall (env sp) (k' + 1 + 1) false 76 [.agg [.int .i64 x.k, .int .i64 x.n, .str x.s, b]] H = some (.agg [.int .i64 x.k, .int .i64 x.n, .str x.s, r], H') := by
      rw [evalCall]
      have hr' := hr
      rcases hr' with ⟨rfl, -⟩ | ⟨vs', t', rfl, -⟩ <;>
      simp only [h76, Tryz.func76, Tryz.f76, e75, hob, hor, evalCode, runOps, runD, runDraw, askOf, askRecs, askAll, isEff, muteOp, stepA, wantedA, isCall, target, evalOp, opMove, opPick, opAlloc, opBox, opBuild, opBuildSlice, opLoad, opStore, opNilCheck, opBinOp, opUnOp, opConvert, opMakeFunc, opMakeMap, opSlice, opFieldAddr, opField, opIndexAddr, opLookup, opExtract, opAppendB, opLenB, wrOf, newA, eqlA, keepA, newV, evT, toA, putA, loadA, storeA, takeCells, setCells, isAgg, binA, unA, convA, arith, addOff, dstLen, nilNil, isConst, sameTy, strOp, params, results, packA, AExit.leaves, maxTmp, memN, askIn, fillA, repl, groups, Option.getD, Option.map, List.length, List.all, Int.reduceBEq, Int.reduceBNe, Int.reduceEq, Int.reduceGT, Int.reduceGE, Int.reduceNeg, Int.reduceAdd, Int.reduceSub, Int.reduceLT, Int.reduceLE, Int.reduceToNat, Nat.reduceLT, Nat.reducePow, Nat.reduceAdd, Nat.reduceMul, Nat.reduceLeDiff, Nat.reduceEqDiff, Nat.reduceBEq, reduceIte, ↓reduceIte, reduceCtorEq, syT, tyT, Rg.regF, Rg.findR, pickOps, fT76, Tryz.f76]
    exact ⟨_, H', key, isN_of hr, hn1, by omega, hf⟩

theorem values53 {k : Nat} {a : AVal} {l : List Nd} {H : Hp} (h53 : sp false 53 = none) (h75 : sp false 75 = none) (h76 : sp false 76 = none) (ha : IsL a l) (hk : 2 * Nd.sizes l ≤ k) (hs : H.next + Nd.sizes l ≤ 4000) :
    ∃ r H', evalCall (env sp) (k + 2) false 53 [a] H = some (r, H') ∧ IsL r l ∧ H.next ≤ H'.next ∧ H'.next ≤ H.next + Nd.sizes l := by
  obtain ⟨r, H', e75, hr, hn1, hn2, -⟩ := each75 (k := k) (H := H) h75 ha (fun y hy => value76 h75 h76 _ y (Nat.le_refl _)) hk hs
  have hoa := ha.one
  have hor := hr.one
  have key : evalCall (env sp) (k + 1 + 1) false 53 [a] H = some (r, H') := by
    rw [evalCall]
    have hr' := hr
    rcases hr' with ⟨rfl, -⟩ | ⟨vs', t', rfl, -⟩ <;>
    simp only [h53, Tryz.func53, Tryz.f53, e75, hoa, hor, evalCode, runOps, runD, runDraw, askOf, askRecs, askAll, isEff, muteOp, stepA, wantedA, isCall, target, evalOp, opMove, opPick, opAlloc, opBox, opBuild, opBuildSlice, opLoad, opStore, opNilCheck, opBinOp, opUnOp, opConvert, opMakeFunc, opMakeMap, opSlice, opFieldAddr, opField, opIndexAddr, opLookup, opExtract, opAppendB, opLenB, wrOf, newA, eqlA, keepA, newV, evT, toA, putA, loadA, storeA, takeCells, setCells, isAgg, binA, unA, convA, arith, addOff, dstLen, nilNil, isConst, sameTy, strOp, params, results, packA, AExit.leaves, maxTmp, memN, askIn, fillA, repl, groups, Option.getD, Option.map, List.length, List.all, Int.reduceBEq, Int.reduceBNe, Int.reduceEq, Int.reduceGT, Int.reduceGE, Int.reduceNeg, Int.reduceAdd, Int.reduceSub, Int.reduceLT, Int.reduceLE, Int.reduceToNat, Nat.reduceLT, Nat.reducePow, Nat.reduceAdd, Nat.reduceMul, Nat.reduceLeDiff, Nat.reduceEqDiff, Nat.reduceBEq, reduceIte, ↓reduceIte, reduceCtorEq, syT, tyT, Rg.regF, Rg.findR, pickOps, fT53, Tryz.f53]
  exact ⟨r, H', key, hr, hn1, hn2⟩
end
end Go.Rs.Seat
end
