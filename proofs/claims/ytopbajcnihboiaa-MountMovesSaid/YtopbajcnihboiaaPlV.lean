/- The law MountMoves, in plain Lean: a table over all positions and columns. -/
import Derived.Test.YtopbajcnihboiaaPxx20
import Derived.OpenShut
namespace Go.Proofs.Ytopbajcnihboiaa.Px
open Go.RowKit Go.Proofs.YtopbajcnihboiaaW.PrintWords Go.Proofs.YtopbajcnihboiaaW.PrintLast Go.Proofs.YtopbajcnihboiaaW.PrintMore
def movesG (k : Nat) (p c : Int) : Option Bool := (observatorylaw13_head.f).bind fun t160 => ((some p).bind fun t161 => ((mount_Reach.f k c).bind fun bt162 => ((mount_Move.f t161 c).bind fun bt166 => (if bt162.2 = 0 then (if bt166.2.2 = 0 then (if (bt162.1.length : Int) < 3 then (observatorylaw13_MountMoves.j0 k t160 t161 c bt162.1 bt166.1 bt166.2.1 true) else (if (bt162.1.length : Int) > 4 then (observatorylaw13_MountMoves.j0 k t160 t161 c bt162.1 bt166.1 bt166.2.1 true) else (if 0 < (bt162.1.length : Int) then (if (wrap64 ((rd bt162.1 0) - 32)) ≥ (-48) then (observatorylaw13_MountMoves.j0 k t160 t161 c bt162.1 bt166.1 bt166.2.1 true) else (if 0 ≤ (wrap64 ((bt162.1.length : Int) - 1)) then (if (wrap64 ((bt162.1.length : Int) - 1)) < (bt162.1.length : Int) then (observatorylaw13_MountMoves.j0 k t160 t161 c bt162.1 bt166.1 bt166.2.1 (decide ((wrap64 ((rd bt162.1 (wrap64 ((bt162.1.length : Int) - 1))) + 32)) ≤ 48))) else (none)) else (none))) else (none)))) else (observatorylaw13_MountMoves.j0 k t160 t161 c bt162.1 bt166.1 bt166.2.1 true)) else (observatorylaw13_MountMoves.j0 k t160 t161 c bt162.1 bt166.1 bt166.2.1 true)))))
theorem pos_all : ((List.range 256).all fun n => observatorylaw13_position.f (n : Int) == some (((n % 97 : Nat) : Int) - 48)) = true := by kernel_rfl
theorem col_all : ((List.range 256).all fun n => Int.tmod (wrap64 (n : Int)) 32 == ((n % 32 : Nat) : Int)) = true := by kernel_rfl
theorem pos_ev {a : Int} (h0 : 0 ≤ a) (h1 : a ≤ 255) : ∃ i : Nat, i < 97 ∧ observatorylaw13_position.f a = some ((i : Int) - 48) := by
  have h := List.all_eq_true.1 pos_all a.toNat (List.mem_range.2 (by omega))
  rw [Int.toNat_of_nonneg h0] at h
  exact ⟨a.toNat % 97, Nat.mod_lt _ (by omega), eq_of_beq h⟩
theorem col_ev {a : Int} (h0 : 0 ≤ a) (h1 : a ≤ 255) : ∃ j : Nat, j < 32 ∧ Int.tmod (wrap64 a) 32 = (j : Int) := by
  have h := List.all_eq_true.1 col_all a.toNat (List.mem_range.2 (by omega))
  rw [Int.toNat_of_nonneg h0] at h
  exact ⟨a.toNat % 32, Nat.mod_lt _ (by omega), eq_of_beq h⟩
def movesT (i n : Nat) : Bool := (List.range n).all fun q => (List.range 32).all fun j => movesG 20 (((i + q : Nat) : Int) - 48) (j : Int) == some true
theorem moves_0 : movesT 0 25 = true := by kernel_rfl
theorem moves_25 : movesT 25 25 = true := by kernel_rfl
theorem moves_50 : movesT 50 25 = true := by kernel_rfl
theorem moves_75 : movesT 75 22 = true := by kernel_rfl
theorem movesT_at {i n q : Nat} (h : movesT i n = true) (hq : i ≤ q) (hn : q < i + n) {j : Nat} (hj : j < 32) : movesG 20 ((q : Int) - 48) (j : Int) = some true := by
  have h1 := List.all_eq_true.1 h (q - i) (List.mem_range.2 (by omega))
  have h2 := List.all_eq_true.1 h1 j (List.mem_range.2 hj)
  rw [show i + (q - i) = q by omega] at h2
  exact eq_of_beq h2
theorem moves_ev {q j : Nat} (hq : q < 97) (hj : j < 32) : movesG 20 ((q : Int) - 48) (j : Int) = some true := by
  rcases Nat.lt_or_ge q 25 with h0 | h0
  · exact movesT_at moves_0 (by omega) (by omega) hj
  rcases Nat.lt_or_ge q 50 with h25 | h25
  · exact movesT_at moves_25 (by omega) (by omega) hj
  rcases Nat.lt_or_ge q 75 with h50 | h50
  · exact movesT_at moves_50 (by omega) (by omega) hj
  rcases Nat.lt_or_ge q 97 with h75 | h75
  · exact movesT_at moves_75 (by omega) (by omega) hj
  omega
theorem moves_pure : observatorylaw13_MountMoves.Pure := by
  intro a0 a1 a2 w0 w1 w2
  obtain ⟨b0, b1⟩ := Go.bounds_u8 w0
  obtain ⟨b2, b3⟩ := Go.bounds_u8 w1
  obtain ⟨i, hi, hp⟩ := pos_ev b0 b1
  obtain ⟨j, hj, hc⟩ := col_ev b2 b3
  refine ⟨20, ?_⟩
  unfold observatorylaw13_MountMoves.f
  rw [hp, hc]
  exact moves_ev hi hj
theorem moves_walk (a0 : Int) (a1 : Int) (a2 : Int) (w : World) (w0 : (Lit.int .u8 a0).wf = true) (w1 : (Lit.int .u8 a1).wf = true) (w2 : (Lit.int .u8 a2).wf = true) :
    Calls Try.prog 4 #[.int .u8 a0, .int .u8 a1, .int .u8 a2] w fun e w' => e = .returned (.bool true) ∧ Below w.heap.size w w' :=
  observatorylaw13_MountMoves.walk moves_pure a0 a1 a2 w w0 w1 w2
end Go.Proofs.Ytopbajcnihboiaa.Px
