/- The interpreter's surroundings for this seat. -/
import Derived.Test.YtceenhjhejjdlaaGreatDoorP01
import Derived.Test.YtceenhjhejjdlaaGreatDoorProg
import Derived.KernelRfl
set_option linter.unusedSimpArgs false
set_option linter.unusedVariables false
namespace Go.Rs.Seat
open Go.Proofs

def ofPairs {α : Type} : List (Nat × α) → Tr α
  | [] => .nil
  | (i, a) :: rest => (ofPairs rest).set i a

def locT : Tr (List Nat) := ofPairs locL
def askT : Tr (List (Nat × List (Nat × Nat × Nat))) := ofPairs askL

def askIn (id : Nat) : List (Nat × List (Nat × Nat × Nat)) → List (Nat × Nat × Nat)
  | [] => []
  | (j, x) :: rest => if j = id then x else askIn id rest

def memN (i : Nat) : List Nat → Bool
  | [] => false
  | j :: rest => i == j || memN i rest

def memP (i j : Nat) : List (Nat × Nat) → Bool
  | [] => false
  | (a, b) :: rest => (i == a && j == b) || memP i j rest

/-- a key that is one cell -/
noncomputable def keyU (u : UD) (a : AVal) : Bool :=
  match u, a with
  | .str, .str s => Nat.ble s.size 1000000
  | .int .i64, .int .i64 n => decide (-9223372036854775808 ≤ n) && decide (n ≤ 9223372036854775807)
  | _, _ => false

/-- keys: strings, integers, pairs of them -/
noncomputable def keyF (t : TypeId) (a : AVal) : Bool :=
  if Nat.blt t 503 = false then false else
  match (tyOf Tryz.prog t).u, a with
  | .arr 2 e, .agg [x, y] => keyU (tyOf Tryz.prog e).u x && keyU (tyOf Tryz.prog e).u y
  | .struct [(0, t0), (1, t1)], .agg [x, y] => keyU (tyOf Tryz.prog t0).u x && keyU (tyOf Tryz.prog t1).u y
  | u, a => keyU u a

def noSpec : Bool → FuncId → Option (List AVal → Hp → Option (AVal × Hp)) := fun _ _ => none

noncomputable def env (spec : Bool → FuncId → Option (List AVal → Hp → Option (AVal × Hp))) : Env where
  ty := tyOf Tryz.prog
  fn := fun f => Tryz.prog.funcs[f]?
  loc := fun f t => memN t ((locT.get f).getD [])
  wr := fun md f t => memP f t wrL || (md && memP f t wrmL)
  frz := fun _ f => memN f frzL
  up := fun f => memN f upL
  ask := fun f id => askIn id ((askT.get f).getD [])
  glob := fun i => Nat.blt i 4
  spec := spec
  loops := 10000
  keyFit := keyF
  mute := fun f => memN f muteL
  frzIn := fun f => memN f frzIL

def hp0 : Hp := { h := .nil, next := 4 }

end Go.Rs.Seat
