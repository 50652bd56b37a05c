/- Reading the interpreter at arguments that are not known: equations for 'simp only'. -/
import Derived.Test.YtceenhjhejjdlaaGreatDoorP03
import Derived.Test.YtceenhjhejjdlaaGreatDoorP04
set_option linter.unusedSimpArgs false
set_option linter.unusedVariables false
section
namespace Go.Rs
noncomputable section
variable {E : Env} {call : CallF} {md : Bool} {f : FuncId}

/-- a drawn region without asked reads: the operations one behind the other -/
def runD (E : Env) (call : CallF) (md : Bool) (f : FuncId) (ops : List Oper) (n : Nat) : List (Nat × Oper × Bool) → Tr AVal → Lv → Hp → Option (Tr AVal × Lv × Hp)
  | [], tm, lv, H => some (tm, lv, H)
  | (_, o, _) :: rest, tm, lv, H => match stepA E call md f ops o tm lv H with
    | some (r, lv, H) => match putA n tm o.dst r with
      | some tm => runD E call md f ops n rest tm lv H
      | none => none
    | none => none

theorem runDraw_runD (ops : List Oper) (n : Nat) : ∀ (l : List (Nat × Oper × Bool)) (tm : Tr AVal) (lv : Lv) (H : Hp) (sts : List (Lv × Hp)),
    (match runDraw E call md f ops n [] l tm lv H sts [] with
    | some (tm, lv, H, _, rs) => some (tm, lv, H, rs)
    | none => none) = (match runD E call md f ops n l tm lv H with
    | some (tm, lv, H) => some (tm, lv, H, [])
    | none => none)
  | [], _, _, _, _ => rfl
  | (i, o, h) :: rest, tm, lv, H, sts => by
    simp only [runDraw, runD]
    cases stepA E call md f ops o tm lv H with
    | none => rfl
    | some x =>
      obtain ⟨r, lv', H'⟩ := x
      simp only []
      cases putA n tm o.dst r with
      | none => rfl
      | some tm' => exact runDraw_runD ops n rest tm' lv' H' _

theorem regionA_draw {id : Nat} {ops : List Oper} {fr : Fr} {H : Hp} (h : E.ask f id = []) : regionA E call md f id ops true fr H = match runD E call md f ops fr.n (orderA ops) fr.tm fr.lv H with
    | some (tm, lv, H) => some ({ fr with tm := tm, lv := lv }, H)
    | none => none := by
  have := runDraw_runD (E := E) (call := call) (md := md) (f := f) ops fr.n (orderA ops) fr.tm fr.lv H []
  unfold regionA
  rw [if_pos rfl, h]
  cases h1 : runDraw E call md f ops fr.n [] (orderA ops) fr.tm fr.lv H [] [] with
  | none =>
    rw [h1] at this
    cases h2 : runD E call md f ops fr.n (orderA ops) fr.tm fr.lv H with
    | none => rfl
    | some x => rw [h2] at this; cases this
  | some x =>
    obtain ⟨tm, lv, H', sts, rs⟩ := x
    rw [h1] at this
    cases h2 : runD E call md f ops fr.n (orderA ops) fr.tm fr.lv H with
    | none => rw [h2] at this; cases this
    | some y =>
      obtain ⟨tm2, lv2, H2⟩ := y
      rw [h2] at this
      simp only [Option.some.injEq, Prod.mk.injEq] at this
      obtain ⟨rfl, rfl, rfl, rfl⟩ := this
      rfl

theorem regionA_text {id : Nat} {ops : List Oper} {fr : Fr} {H : Hp} : regionA E call md f id ops false fr H = match runOps E call md f ops fr.n ops fr.tm fr.lv H with
    | some (tm, lv, H) => some ({ fr with tm := tm, lv := lv }, H)
    | none => none := rfl

/-- operations by their numbers -/
def pickOps (ops : List Oper) : List (Nat × Bool) → List (Nat × Oper × Bool)
  | [] => []
  | (i, h) :: rest => match ops[i]? with
    | some o => (i, o, h) :: pickOps ops rest
    | none => []

theorem oc_bool (b) : (AVal.bool b).oneCell = true := rfl
theorem oc_int (k n) : (AVal.int k n).oneCell = true := rfl
theorem oc_str (s) : (AVal.str s).oneCell = true := rfl
theorem oc_nilptr : AVal.nilptr.oneCell = true := rfl
theorem oc_ptr (i o) : (AVal.ptr i o).oneCell = true := rfl
theorem oc_nilslice : AVal.nilslice.oneCell = true := rfl
theorem oc_list (xs t s) : (AVal.list xs t s).oneCell = true := rfl
theorem oc_sl (i o l s) : (AVal.sl i o l s).oneCell = true := rfl
theorem oc_map (i) : (AVal.map i).oneCell = true := rfl
theorem oc_func (f a b) : (AVal.func f a b).oneCell = true := rfl
theorem ha_bool (b) : (AVal.bool b).handed = true := rfl
theorem ha_int (k n) : (AVal.int k n).handed = true := rfl
theorem ha_str (s) : (AVal.str s).handed = true := rfl
theorem ha_nilptr : AVal.nilptr.handed = true := rfl
theorem ha_ptr (i o) : (AVal.ptr i o).handed = true := rfl
theorem ha_nilslice : AVal.nilslice.handed = true := rfl
theorem ha_list (xs t s) : (AVal.list xs t s).handed = true := rfl
theorem ha_sl (i o l s) : (AVal.sl i o l s).handed = true := rfl
theorem ha_map (i) : (AVal.map i).handed = true := rfl
theorem ha_func (f a b) : (AVal.func f a b).handed = true := rfl
theorem ha_agg (cs) : (AVal.agg cs).handed = cs.all (·.oneCell) := rfl
theorem ha_tuple (cs) : (AVal.tuple cs).handed = false := rfl
theorem ha_lptr (t o) : (AVal.lptr t o).handed = false := rfl
theorem ha_eptr (x i o) : (AVal.eptr x i o).handed = true := rfl
theorem ha_one {v : AVal} (h : v.oneCell = true) : v.handed = true := by cases v <;> first | rfl | cases h
theorem ce_one {v : AVal} (h : v.oneCell = true) : v.cells = [v] := AVal.cells_one h
theorem ce_int (k n) : (AVal.int k n).cells = [.int k n] := rfl
theorem ce_str (s) : (AVal.str s).cells = [.str s] := rfl
theorem ce_bool (b) : (AVal.bool b).cells = [.bool b] := rfl
theorem ce_nilslice : AVal.nilslice.cells = [.nilslice] := rfl
theorem ce_list (xs t s) : (AVal.list xs t s).cells = [.list xs t s] := rfl
theorem ce_ptr (i o) : (AVal.ptr i o).cells = [.ptr i o] := rfl
theorem ce_agg (cs) : (AVal.agg cs).cells = cs := rfl
theorem st_agg (cs) : (AVal.agg cs).strip = .agg cs := rfl
theorem st_list (xs t s) : (AVal.list xs t s).strip = .list xs .none s := rfl
theorem st_int (k n) : (AVal.int k n).strip = .int k n := rfl
theorem st_str (s) : (AVal.str s).strip = .str s := rfl
theorem st_bool (b) : (AVal.bool b).strip = .bool b := rfl
theorem st_nilslice : AVal.nilslice.strip = .nilslice := rfl
theorem oc_strip {v : AVal} (h : v.oneCell = true) : v.strip.oneCell = true := by cases v <;> first | rfl | cases h
theorem ro_bool (o b) : resOk o (.bool b) = true := rfl
theorem ro_int (o k n) : resOk o (.int k n) = true := rfl
theorem ro_str (o s) : resOk o (.str s) = true := rfl
theorem ro_list (o a b c) : resOk o (.list a b c) = true := rfl
theorem ro_nilslice (o) : resOk o .nilslice = true := rfl
theorem ro_agg (o cs) : resOk o (.agg cs) = true := rfl
theorem ro_tuple (o cs) : resOk o (.tuple cs) = true := rfl
theorem ro_ptr (o a b) : resOk o (.ptr a b) = true := rfl
theorem ro_lptr (o a b) : resOk o (.lptr a b) = true := rfl
theorem ro_eptr (o a b c) : resOk o (.eptr a b c) = true := rfl
theorem ro_sl (o a b c d) : resOk o (.sl a b c d) = true := rfl
theorem ro_map (o a) : resOk o (.map a) = true := rfl
theorem ro_func (o a b c) : resOk o (.func a b c) = true := rfl
theorem ro_nilptr (o) : resOk o .nilptr = true := rfl
theorem ro_undef (o : Oper) : resOk o .undef = match o.op with | .store .. | .mapUpdate .. | .insert .. => true | _ => false := rfl
theorem ro_one {o : Oper} {v : AVal} (h : v.oneCell = true) : resOk o v = true := by cases v <;> first | rfl | cases h
theorem bb_ft : (false == true) = false := rfl
theorem bb_tf : (true == false) = false := rfl
theorem bb_tt : (true == true) = true := rfl
theorem bb_ff : (false == false) = true := rfl
theorem bool_split (b : Bool) : b = true ∨ b = false := by cases b <;> simp

theorem al1 {H : Hp} {o : AObj} : (H.alloc o).1 = H.next := rfl
theorem alN {H : Hp} {o : AObj} : (H.alloc o).2.next = H.next + 1 := rfl
theorem stN {H : Hp} {i : Nat} {o : AObj} : (H.set i o).next = H.next := rfl
theorem tget {t : Tr AVal} {i j : Nat} {a : AVal} (h : i < 4096) : (t.set i a).get j = if i = j then some a else t.get j := Tr.get_set _ _ _ _ h
theorem tnil {i : Nat} : (Tr.nil : Tr AVal).get i = none := rfl
theorem hget {H : Hp} {i j : Nat} {o : AObj} (h : i < 4096) : (H.set i o).get j = if i = j then o else H.get j := Hp.get_set _ _ _ _ h
theorem hnew {H : Hp} {j : Nat} {o : AObj} (h : H.next < 4096) : (H.alloc o).2.get j = if H.next = j then o else H.get j := Hp.get_alloc _ _ _ h
theorem lget {l : Lv} {i j : Nat} {a : List AVal} (h : i < 4096) : (l.set i a).get j = if i = j then some a else l.get j := Lv.get_set _ _ _ _ h
theorem lpush {l : Lv} {j : Nat} {a : List AVal} (h : l.next < 4096) : (l.push a).get j = if l.next = j then some a else l.get j := Lv.get_push _ _ _ h
theorem lnil {j n : Nat} : (⟨.nil, n⟩ : Lv).get j = none := rfl
theorem lnext {t : Tr (List AVal)} {n : Nat} : (⟨t, n⟩ : Lv).next = n := rfl
end

namespace Seat
theorem env_fn (sp) (f : Nat) : (env sp).fn f = Go.Proofs.Tryz.prog.funcs[f]? := rfl
theorem env_spec (sp) : (env sp).spec = sp := rfl
set_option maxRecDepth 1000000 in
theorem loops_ge (sp) (m : Nat) (h : m ≤ 9000) : ∃ k, (env sp).loops = k + m := ⟨10000 - m, by show 10000 = _; omega⟩
theorem env_keyFit (sp) : (env sp).keyFit = keyF := by kernel_rfl
end Seat
end Go.Rs
end
/- Facts on types and functions, made by program (gensy.py). -/
section
namespace Go.Rs.Seat
open Go.Proofs
set_option maxRecDepth 100000

theorem ty3 (sp) : (env sp).ty 3 = ⟨true, true, .int .i64, 1, 8, [.int .i64 0], .int .i64 0, methOf Tryz.prog 3⟩ := by kernel_rfl
theorem ty4 (sp) : (env sp).ty 4 = ⟨true, true, .bool, 1, 1, [.bool false], .bool false, methOf Tryz.prog 4⟩ := by kernel_rfl
theorem ty9 (sp) : (env sp).ty 9 = ⟨true, true, .str, 1, 16, [.str ⟨#[]⟩], .str ⟨#[]⟩, methOf Tryz.prog 9⟩ := by kernel_rfl
theorem ty20 (sp) : (env sp).ty 20 = ⟨true, true, .iface, 1, 16, [.niliface], .niliface, methOf Tryz.prog 20⟩ := by kernel_rfl
theorem ty22 (sp) : (env sp).ty 22 = ⟨true, true, .slice 3, 1, 24, [.nilslice], .nilslice, methOf Tryz.prog 22⟩ := by kernel_rfl
theorem ty25 (sp) : (env sp).ty 25 = ⟨true, true, .slice 36, 1, 24, [.nilslice], .nilslice, methOf Tryz.prog 25⟩ := by kernel_rfl
theorem ty27 (sp) : (env sp).ty 27 = ⟨true, true, .slice 29, 1, 24, [.nilslice], .nilslice, methOf Tryz.prog 27⟩ := by kernel_rfl
theorem ty29 (sp) : (env sp).ty 29 = ⟨true, true, .struct [(0, 3), (1, 3), (2, 9), (3, 27)], 4, 56, [.int .i64 0, .int .i64 0, .str ⟨#[]⟩, .nilslice], .agg [.int .i64 0, .int .i64 0, .str ⟨#[]⟩, .nilslice], methOf Tryz.prog 29⟩ := by kernel_rfl
theorem ty31 (sp) : (env sp).ty 31 = ⟨true, true, .ptr 33, 1, 8, [.nilptr], .nilptr, methOf Tryz.prog 31⟩ := by kernel_rfl
theorem ty33 (sp) : (env sp).ty 33 = ⟨true, true, .struct [(0, 22), (1, 3), (2, 4)], 3, 40, [.nilslice, .int .i64 0, .bool false], .agg [.nilslice, .int .i64 0, .bool false], methOf Tryz.prog 33⟩ := by kernel_rfl
theorem ty36 (sp) : (env sp).ty 36 = ⟨true, true, .struct [(0, 3), (1, 3), (2, 9), (3, 25)], 4, 56, [.int .i64 0, .int .i64 0, .str ⟨#[]⟩, .nilslice], .agg [.int .i64 0, .int .i64 0, .str ⟨#[]⟩, .nilslice], methOf Tryz.prog 36⟩ := by kernel_rfl
theorem ty38 (sp) : (env sp).ty 38 = ⟨true, true, .struct [(0, 22), (1, 36)], 5, 80, [.nilslice, .int .i64 0, .int .i64 0, .str ⟨#[]⟩, .nilslice], .agg [.nilslice, .int .i64 0, .int .i64 0, .str ⟨#[]⟩, .nilslice], methOf Tryz.prog 38⟩ := by kernel_rfl
theorem ty39 (sp) : (env sp).ty 39 = ⟨true, true, .slice 41, 1, 24, [.nilslice], .nilslice, methOf Tryz.prog 39⟩ := by kernel_rfl
theorem ty41 (sp) : (env sp).ty 41 = ⟨true, true, .struct [(0, 4), (1, 3), (2, 38), (7, 39), (8, 39)], 9, 144, [.bool false, .int .i64 0, .nilslice, .int .i64 0, .int .i64 0, .str ⟨#[]⟩, .nilslice, .nilslice, .nilslice], .agg [.bool false, .int .i64 0, .nilslice, .int .i64 0, .int .i64 0, .str ⟨#[]⟩, .nilslice, .nilslice, .nilslice], methOf Tryz.prog 41⟩ := by kernel_rfl
theorem ty43 (sp) : (env sp).ty 43 = ⟨true, true, .slice 38, 1, 24, [.nilslice], .nilslice, methOf Tryz.prog 43⟩ := by kernel_rfl
theorem ty46 (sp) : (env sp).ty 46 = ⟨true, true, .func, 1, 8, [.nilfunc], .nilfunc, methOf Tryz.prog 46⟩ := by kernel_rfl
theorem ty49 (sp) : (env sp).ty 49 = ⟨true, false, .other, 1, 0, [.undef], .undef, methOf Tryz.prog 49⟩ := by kernel_rfl
theorem ty52 (sp) : (env sp).ty 52 = ⟨true, false, .other, 1, 0, [.undef], .undef, methOf Tryz.prog 52⟩ := by kernel_rfl
theorem ty54 (sp) : (env sp).ty 54 = ⟨true, true, .slice 9, 1, 24, [.nilslice], .nilslice, methOf Tryz.prog 54⟩ := by kernel_rfl
theorem ty98 (sp) : (env sp).ty 98 = ⟨true, false, .other, 1, 0, [.undef], .undef, methOf Tryz.prog 98⟩ := by kernel_rfl
theorem ty105 (sp) : (env sp).ty 105 = ⟨true, true, .map 9 3, 1, 8, [.nilmap], .nilmap, methOf Tryz.prog 105⟩ := by kernel_rfl
theorem ty106 (sp) : (env sp).ty 106 = ⟨true, true, .slice 109, 1, 24, [.nilslice], .nilslice, methOf Tryz.prog 106⟩ := by kernel_rfl
theorem ty109 (sp) : (env sp).ty 109 = ⟨true, true, .struct [(0, 3), (1, 43)], 2, 32, [.int .i64 0, .nilslice], .agg [.int .i64 0, .nilslice], methOf Tryz.prog 109⟩ := by kernel_rfl
theorem ty113 (sp) : (env sp).ty 113 = ⟨true, true, .int .u64, 1, 8, [.int .u64 0], .int .u64 0, methOf Tryz.prog 113⟩ := by kernel_rfl
theorem ty207 (sp) : (env sp).ty 207 = ⟨true, true, .func, 1, 8, [.nilfunc], .nilfunc, methOf Tryz.prog 207⟩ := by kernel_rfl
theorem ty209 (sp) : (env sp).ty 209 = ⟨true, true, .slice 43, 1, 24, [.nilslice], .nilslice, methOf Tryz.prog 209⟩ := by kernel_rfl
theorem loc_3 (sp) (t : Nat) : (env sp).loc 3 t = memN t [6] := by kernel_rfl
theorem wr_3 (sp) (md : Bool) (t : Nat) : (env sp).wr md 3 t = false := by cases md <;> kernel_rfl
theorem frz_3 (sp) (md : Bool) : (env sp).frz md 3 = false := by kernel_rfl
theorem frzIn_3 (sp) : (env sp).frzIn 3 = false := by kernel_rfl
theorem up_3 (sp) : (env sp).up 3 = false := by kernel_rfl
theorem ask_3 (sp) (id : Nat) : (env sp).ask 3 id = askIn id [] := by kernel_rfl
theorem loc_4 (sp) (t : Nat) : (env sp).loc 4 t = memN t [8] := by kernel_rfl
theorem wr_4 (sp) (md : Bool) (t : Nat) : (env sp).wr md 4 t = false := by cases md <;> kernel_rfl
theorem frz_4 (sp) (md : Bool) : (env sp).frz md 4 = false := by kernel_rfl
theorem frzIn_4 (sp) : (env sp).frzIn 4 = false := by kernel_rfl
theorem up_4 (sp) : (env sp).up 4 = false := by kernel_rfl
theorem ask_4 (sp) (id : Nat) : (env sp).ask 4 id = askIn id [(10, [(2, (0, 1))]), (9, [(4, (0, 1))])] := by kernel_rfl
theorem loc_5 (sp) (t : Nat) : (env sp).loc 5 t = memN t [6] := by kernel_rfl
theorem wr_5 (sp) (md : Bool) (t : Nat) : (env sp).wr md 5 t = false := by cases md <;> kernel_rfl
theorem frz_5 (sp) (md : Bool) : (env sp).frz md 5 = false := by kernel_rfl
theorem frzIn_5 (sp) : (env sp).frzIn 5 = false := by kernel_rfl
theorem up_5 (sp) : (env sp).up 5 = false := by kernel_rfl
theorem ask_5 (sp) (id : Nat) : (env sp).ask 5 id = askIn id [(8, [(2, (0, 1))])] := by kernel_rfl
theorem loc_7 (sp) (t : Nat) : (env sp).loc 7 t = memN t [] := by kernel_rfl
theorem wr_7 (sp) (md : Bool) (t : Nat) : (env sp).wr md 7 t = false := by cases md <;> kernel_rfl
theorem frz_7 (sp) (md : Bool) : (env sp).frz md 7 = false := by kernel_rfl
theorem frzIn_7 (sp) : (env sp).frzIn 7 = false := by kernel_rfl
theorem up_7 (sp) : (env sp).up 7 = false := by kernel_rfl
theorem ask_7 (sp) (id : Nat) : (env sp).ask 7 id = askIn id [] := by kernel_rfl
theorem loc_8 (sp) (t : Nat) : (env sp).loc 8 t = memN t [] := by kernel_rfl
theorem wr_8 (sp) (md : Bool) (t : Nat) : (env sp).wr md 8 t = false := by cases md <;> kernel_rfl
theorem frz_8 (sp) (md : Bool) : (env sp).frz md 8 = false := by kernel_rfl
theorem frzIn_8 (sp) : (env sp).frzIn 8 = false := by kernel_rfl
theorem up_8 (sp) : (env sp).up 8 = false := by kernel_rfl
theorem ask_8 (sp) (id : Nat) : (env sp).ask 8 id = askIn id [] := by kernel_rfl
theorem loc_9 (sp) (t : Nat) : (env sp).loc 9 t = memN t [4, 5] := by kernel_rfl
theorem wr_9 (sp) (md : Bool) (t : Nat) : (env sp).wr md 9 t = false := by cases md <;> kernel_rfl
theorem frz_9 (sp) (md : Bool) : (env sp).frz md 9 = false := by kernel_rfl
theorem frzIn_9 (sp) : (env sp).frzIn 9 = false := by kernel_rfl
theorem up_9 (sp) : (env sp).up 9 = false := by kernel_rfl
theorem ask_9 (sp) (id : Nat) : (env sp).ask 9 id = askIn id [(6, [(1, (0, 1))])] := by kernel_rfl
theorem loc_10 (sp) (t : Nat) : (env sp).loc 10 t = memN t [5] := by kernel_rfl
theorem wr_10 (sp) (md : Bool) (t : Nat) : (env sp).wr md 10 t = false := by cases md <;> kernel_rfl
theorem frz_10 (sp) (md : Bool) : (env sp).frz md 10 = false := by kernel_rfl
theorem frzIn_10 (sp) : (env sp).frzIn 10 = false := by kernel_rfl
theorem up_10 (sp) : (env sp).up 10 = false := by kernel_rfl
theorem ask_10 (sp) (id : Nat) : (env sp).ask 10 id = askIn id [] := by kernel_rfl
theorem loc_11 (sp) (t : Nat) : (env sp).loc 11 t = memN t [2, 5] := by kernel_rfl
theorem wr_11 (sp) (md : Bool) (t : Nat) : (env sp).wr md 11 t = false := by cases md <;> kernel_rfl
theorem frz_11 (sp) (md : Bool) : (env sp).frz md 11 = false := by kernel_rfl
theorem frzIn_11 (sp) : (env sp).frzIn 11 = false := by kernel_rfl
theorem up_11 (sp) : (env sp).up 11 = false := by kernel_rfl
theorem ask_11 (sp) (id : Nat) : (env sp).ask 11 id = askIn id [] := by kernel_rfl
theorem loc_12 (sp) (t : Nat) : (env sp).loc 12 t = memN t [] := by kernel_rfl
theorem wr_12 (sp) (md : Bool) (t : Nat) : (env sp).wr md 12 t = false := by cases md <;> kernel_rfl
theorem frz_12 (sp) (md : Bool) : (env sp).frz md 12 = false := by kernel_rfl
theorem frzIn_12 (sp) : (env sp).frzIn 12 = false := by kernel_rfl
theorem up_12 (sp) : (env sp).up 12 = false := by kernel_rfl
theorem ask_12 (sp) (id : Nat) : (env sp).ask 12 id = askIn id [] := by kernel_rfl
theorem loc_13 (sp) (t : Nat) : (env sp).loc 13 t = memN t [2] := by kernel_rfl
theorem wr_13 (sp) (md : Bool) (t : Nat) : (env sp).wr md 13 t = false := by cases md <;> kernel_rfl
theorem frz_13 (sp) (md : Bool) : (env sp).frz md 13 = false := by kernel_rfl
theorem frzIn_13 (sp) : (env sp).frzIn 13 = false := by kernel_rfl
theorem up_13 (sp) : (env sp).up 13 = false := by kernel_rfl
theorem ask_13 (sp) (id : Nat) : (env sp).ask 13 id = askIn id [] := by kernel_rfl
theorem loc_14 (sp) (t : Nat) : (env sp).loc 14 t = memN t [] := by kernel_rfl
theorem wr_14 (sp) (md : Bool) (t : Nat) : (env sp).wr md 14 t = false := by cases md <;> kernel_rfl
theorem frz_14 (sp) (md : Bool) : (env sp).frz md 14 = false := by kernel_rfl
theorem frzIn_14 (sp) : (env sp).frzIn 14 = false := by kernel_rfl
theorem up_14 (sp) : (env sp).up 14 = false := by kernel_rfl
theorem ask_14 (sp) (id : Nat) : (env sp).ask 14 id = askIn id [] := by kernel_rfl
theorem loc_15 (sp) (t : Nat) : (env sp).loc 15 t = memN t [2, 3] := by kernel_rfl
theorem wr_15 (sp) (md : Bool) (t : Nat) : (env sp).wr md 15 t = false := by cases md <;> kernel_rfl
theorem frz_15 (sp) (md : Bool) : (env sp).frz md 15 = false := by kernel_rfl
theorem frzIn_15 (sp) : (env sp).frzIn 15 = false := by kernel_rfl
theorem up_15 (sp) : (env sp).up 15 = false := by kernel_rfl
theorem ask_15 (sp) (id : Nat) : (env sp).ask 15 id = askIn id [] := by kernel_rfl
theorem loc_16 (sp) (t : Nat) : (env sp).loc 16 t = memN t [] := by kernel_rfl
theorem wr_16 (sp) (md : Bool) (t : Nat) : (env sp).wr md 16 t = false := by cases md <;> kernel_rfl
theorem frz_16 (sp) (md : Bool) : (env sp).frz md 16 = false := by kernel_rfl
theorem frzIn_16 (sp) : (env sp).frzIn 16 = false := by kernel_rfl
theorem up_16 (sp) : (env sp).up 16 = false := by kernel_rfl
theorem ask_16 (sp) (id : Nat) : (env sp).ask 16 id = askIn id [] := by kernel_rfl
theorem loc_17 (sp) (t : Nat) : (env sp).loc 17 t = memN t [2, 3] := by kernel_rfl
theorem wr_17 (sp) (md : Bool) (t : Nat) : (env sp).wr md 17 t = false := by cases md <;> kernel_rfl
theorem frz_17 (sp) (md : Bool) : (env sp).frz md 17 = false := by kernel_rfl
theorem frzIn_17 (sp) : (env sp).frzIn 17 = false := by kernel_rfl
theorem up_17 (sp) : (env sp).up 17 = false := by kernel_rfl
theorem ask_17 (sp) (id : Nat) : (env sp).ask 17 id = askIn id [] := by kernel_rfl
theorem loc_18 (sp) (t : Nat) : (env sp).loc 18 t = memN t [3, 7] := by kernel_rfl
theorem wr_18 (sp) (md : Bool) (t : Nat) : (env sp).wr md 18 t = false := by cases md <;> kernel_rfl
theorem frz_18 (sp) (md : Bool) : (env sp).frz md 18 = false := by kernel_rfl
theorem frzIn_18 (sp) : (env sp).frzIn 18 = false := by kernel_rfl
theorem up_18 (sp) : (env sp).up 18 = false := by kernel_rfl
theorem ask_18 (sp) (id : Nat) : (env sp).ask 18 id = askIn id [] := by kernel_rfl
theorem loc_25 (sp) (t : Nat) : (env sp).loc 25 t = memN t [] := by kernel_rfl
theorem wr_25 (sp) (md : Bool) (t : Nat) : (env sp).wr md 25 t = false := by cases md <;> kernel_rfl
theorem frz_25 (sp) (md : Bool) : (env sp).frz md 25 = false := by kernel_rfl
theorem frzIn_25 (sp) : (env sp).frzIn 25 = false := by kernel_rfl
theorem up_25 (sp) : (env sp).up 25 = false := by kernel_rfl
theorem ask_25 (sp) (id : Nat) : (env sp).ask 25 id = askIn id [] := by kernel_rfl
theorem loc_26 (sp) (t : Nat) : (env sp).loc 26 t = memN t [4, 5] := by kernel_rfl
theorem wr_26 (sp) (md : Bool) (t : Nat) : (env sp).wr md 26 t = false := by cases md <;> kernel_rfl
theorem frz_26 (sp) (md : Bool) : (env sp).frz md 26 = false := by kernel_rfl
theorem frzIn_26 (sp) : (env sp).frzIn 26 = false := by kernel_rfl
theorem up_26 (sp) : (env sp).up 26 = false := by kernel_rfl
theorem ask_26 (sp) (id : Nat) : (env sp).ask 26 id = askIn id [(17, [(1, (0, 1))])] := by kernel_rfl
theorem loc_27 (sp) (t : Nat) : (env sp).loc 27 t = memN t [] := by kernel_rfl
theorem wr_27 (sp) (md : Bool) (t : Nat) : (env sp).wr md 27 t = false := by cases md <;> kernel_rfl
theorem frz_27 (sp) (md : Bool) : (env sp).frz md 27 = false := by kernel_rfl
theorem frzIn_27 (sp) : (env sp).frzIn 27 = false := by kernel_rfl
theorem up_27 (sp) : (env sp).up 27 = false := by kernel_rfl
theorem ask_27 (sp) (id : Nat) : (env sp).ask 27 id = askIn id [] := by kernel_rfl
theorem loc_28 (sp) (t : Nat) : (env sp).loc 28 t = memN t [2, 8] := by kernel_rfl
theorem wr_28 (sp) (md : Bool) (t : Nat) : (env sp).wr md 28 t = false := by cases md <;> kernel_rfl
theorem frz_28 (sp) (md : Bool) : (env sp).frz md 28 = false := by kernel_rfl
theorem frzIn_28 (sp) : (env sp).frzIn 28 = false := by kernel_rfl
theorem up_28 (sp) : (env sp).up 28 = false := by kernel_rfl
theorem ask_28 (sp) (id : Nat) : (env sp).ask 28 id = askIn id [(14, [(1, (0, 2))])] := by kernel_rfl
theorem loc_29 (sp) (t : Nat) : (env sp).loc 29 t = memN t [2, 7] := by kernel_rfl
theorem wr_29 (sp) (md : Bool) (t : Nat) : (env sp).wr md 29 t = false := by cases md <;> kernel_rfl
theorem frz_29 (sp) (md : Bool) : (env sp).frz md 29 = false := by kernel_rfl
theorem frzIn_29 (sp) : (env sp).frzIn 29 = false := by kernel_rfl
theorem up_29 (sp) : (env sp).up 29 = false := by kernel_rfl
theorem ask_29 (sp) (id : Nat) : (env sp).ask 29 id = askIn id [(18, [(0, (0, 2))]), (12, [(2, (0, 1))])] := by kernel_rfl
theorem loc_30 (sp) (t : Nat) : (env sp).loc 30 t = memN t [] := by kernel_rfl
theorem wr_30 (sp) (md : Bool) (t : Nat) : (env sp).wr md 30 t = false := by cases md <;> kernel_rfl
theorem frz_30 (sp) (md : Bool) : (env sp).frz md 30 = false := by kernel_rfl
theorem frzIn_30 (sp) : (env sp).frzIn 30 = false := by kernel_rfl
theorem up_30 (sp) : (env sp).up 30 = false := by kernel_rfl
theorem ask_30 (sp) (id : Nat) : (env sp).ask 30 id = askIn id [] := by kernel_rfl
theorem loc_31 (sp) (t : Nat) : (env sp).loc 31 t = memN t [2, 3] := by kernel_rfl
theorem wr_31 (sp) (md : Bool) (t : Nat) : (env sp).wr md 31 t = false := by cases md <;> kernel_rfl
theorem frz_31 (sp) (md : Bool) : (env sp).frz md 31 = false := by kernel_rfl
theorem frzIn_31 (sp) : (env sp).frzIn 31 = false := by kernel_rfl
theorem up_31 (sp) : (env sp).up 31 = false := by kernel_rfl
theorem ask_31 (sp) (id : Nat) : (env sp).ask 31 id = askIn id [] := by kernel_rfl
theorem loc_32 (sp) (t : Nat) : (env sp).loc 32 t = memN t [2, 3] := by kernel_rfl
theorem wr_32 (sp) (md : Bool) (t : Nat) : (env sp).wr md 32 t = false := by cases md <;> kernel_rfl
theorem frz_32 (sp) (md : Bool) : (env sp).frz md 32 = false := by kernel_rfl
theorem frzIn_32 (sp) : (env sp).frzIn 32 = false := by kernel_rfl
theorem up_32 (sp) : (env sp).up 32 = false := by kernel_rfl
theorem ask_32 (sp) (id : Nat) : (env sp).ask 32 id = askIn id [] := by kernel_rfl
theorem loc_47 (sp) (t : Nat) : (env sp).loc 47 t = memN t [] := by kernel_rfl
theorem wr_47 (sp) (t : Nat) : (env sp).wr false 47 t = false := by kernel_rfl
theorem frz_47 (sp) (md : Bool) : (env sp).frz md 47 = false := by kernel_rfl
theorem frzIn_47 (sp) : (env sp).frzIn 47 = false := by kernel_rfl
theorem up_47 (sp) : (env sp).up 47 = false := by kernel_rfl
theorem ask_47 (sp) (id : Nat) : (env sp).ask 47 id = askIn id [] := by kernel_rfl
theorem loc_48 (sp) (t : Nat) : (env sp).loc 48 t = memN t [2] := by kernel_rfl
theorem wr_48 (sp) (md : Bool) (t : Nat) : (env sp).wr md 48 t = false := by cases md <;> kernel_rfl
theorem frz_48 (sp) (md : Bool) : (env sp).frz md 48 = false := by kernel_rfl
theorem frzIn_48 (sp) : (env sp).frzIn 48 = false := by kernel_rfl
theorem up_48 (sp) : (env sp).up 48 = false := by kernel_rfl
theorem ask_48 (sp) (id : Nat) : (env sp).ask 48 id = askIn id [] := by kernel_rfl
theorem loc_49 (sp) (t : Nat) : (env sp).loc 49 t = memN t [2, 3] := by kernel_rfl
theorem wr_49 (sp) (md : Bool) (t : Nat) : (env sp).wr md 49 t = false := by cases md <;> kernel_rfl
theorem frz_49 (sp) (md : Bool) : (env sp).frz md 49 = false := by kernel_rfl
theorem frzIn_49 (sp) : (env sp).frzIn 49 = false := by kernel_rfl
theorem up_49 (sp) : (env sp).up 49 = false := by kernel_rfl
theorem ask_49 (sp) (id : Nat) : (env sp).ask 49 id = askIn id [] := by kernel_rfl
theorem loc_50 (sp) (t : Nat) : (env sp).loc 50 t = memN t [] := by kernel_rfl
theorem wr_50 (sp) (md : Bool) (t : Nat) : (env sp).wr md 50 t = false := by cases md <;> kernel_rfl
theorem frz_50 (sp) (md : Bool) : (env sp).frz md 50 = true := by kernel_rfl
theorem frzIn_50 (sp) : (env sp).frzIn 50 = false := by kernel_rfl
theorem up_50 (sp) : (env sp).up 50 = false := by kernel_rfl
theorem ask_50 (sp) (id : Nat) : (env sp).ask 50 id = askIn id [] := by kernel_rfl
theorem loc_51 (sp) (t : Nat) : (env sp).loc 51 t = memN t [2] := by kernel_rfl
theorem wr_51 (sp) (md : Bool) (t : Nat) : (env sp).wr md 51 t = false := by cases md <;> kernel_rfl
theorem frz_51 (sp) (md : Bool) : (env sp).frz md 51 = false := by kernel_rfl
theorem frzIn_51 (sp) : (env sp).frzIn 51 = false := by kernel_rfl
theorem up_51 (sp) : (env sp).up 51 = false := by kernel_rfl
theorem ask_51 (sp) (id : Nat) : (env sp).ask 51 id = askIn id [] := by kernel_rfl
theorem loc_52 (sp) (t : Nat) : (env sp).loc 52 t = memN t [3, 4, 9] := by kernel_rfl
theorem wr_52 (sp) (md : Bool) (t : Nat) : (env sp).wr md 52 t = false := by cases md <;> kernel_rfl
theorem frz_52 (sp) (md : Bool) : (env sp).frz md 52 = false := by kernel_rfl
theorem frzIn_52 (sp) : (env sp).frzIn 52 = false := by kernel_rfl
theorem up_52 (sp) : (env sp).up 52 = false := by kernel_rfl
theorem ask_52 (sp) (id : Nat) : (env sp).ask 52 id = askIn id [] := by kernel_rfl
theorem loc_53 (sp) (t : Nat) : (env sp).loc 53 t = memN t [] := by kernel_rfl
theorem wr_53 (sp) (md : Bool) (t : Nat) : (env sp).wr md 53 t = false := by cases md <;> kernel_rfl
theorem frz_53 (sp) (md : Bool) : (env sp).frz md 53 = false := by kernel_rfl
theorem frzIn_53 (sp) : (env sp).frzIn 53 = false := by kernel_rfl
theorem up_53 (sp) : (env sp).up 53 = false := by kernel_rfl
theorem ask_53 (sp) (id : Nat) : (env sp).ask 53 id = askIn id [] := by kernel_rfl
theorem loc_74 (sp) (t : Nat) : (env sp).loc 74 t = memN t [] := by kernel_rfl
theorem wr_74 (sp) : (env sp).wr false 74 22 = true := by kernel_rfl
theorem frz_74 (sp) (md : Bool) : (env sp).frz md 74 = false := by kernel_rfl
theorem frzIn_74 (sp) : (env sp).frzIn 74 = false := by kernel_rfl
theorem up_74 (sp) : (env sp).up 74 = false := by kernel_rfl
theorem ask_74 (sp) (id : Nat) : (env sp).ask 74 id = askIn id [] := by kernel_rfl
theorem loc_75 (sp) (t : Nat) : (env sp).loc 75 t = memN t [7] := by kernel_rfl
theorem wr_75 (sp) (md : Bool) (t : Nat) : (env sp).wr md 75 t = false := by cases md <;> kernel_rfl
theorem frz_75 (sp) (md : Bool) : (env sp).frz md 75 = false := by kernel_rfl
theorem frzIn_75 (sp) : (env sp).frzIn 75 = false := by kernel_rfl
theorem up_75 (sp) : (env sp).up 75 = false := by kernel_rfl
theorem ask_75 (sp) (id : Nat) : (env sp).ask 75 id = askIn id [] := by kernel_rfl
theorem loc_76 (sp) (t : Nat) : (env sp).loc 76 t = memN t [1, 2] := by kernel_rfl
theorem wr_76 (sp) (md : Bool) (t : Nat) : (env sp).wr md 76 t = false := by cases md <;> kernel_rfl
theorem frz_76 (sp) (md : Bool) : (env sp).frz md 76 = false := by kernel_rfl
theorem frzIn_76 (sp) : (env sp).frzIn 76 = false := by kernel_rfl
theorem up_76 (sp) : (env sp).up 76 = false := by kernel_rfl
theorem ask_76 (sp) (id : Nat) : (env sp).ask 76 id = askIn id [] := by kernel_rfl
end Go.Rs.Seat
end
