/- Plain words for the plain statements: rounds, wraps, lists; no condition. -/
import Derived.Test.YtdlobolnajcfnaaWMore
namespace Go.Proofs.Ytdlobolnajcfnaa.Base
set_option linter.unusedVariables false
set_option linter.unusedSimpArgs false
open Go.RowKit Go.Proofs.YtdlobolnajcfnaaW.PrintWords Go.Proofs.YtdlobolnajcfnaaW.PrintMore

theorem wrap_id {x : Int} (h0 : -9223372036854775808 ≤ x) (h1 : x ≤ 9223372036854775807) : wrap64 x = x := by
  unfold wrap64; omega

section
variable {α β : Type} {r : α}
theorem ev_pos {c : Prop} [Decidable c] {f g : Nat → Option α} (h : c) (k : Ev f r) : Ev (fun n => if c then f n else g n) r := Ev.congr (fun n => if_pos h) k
theorem ev_neg {c : Prop} [Decidable c] {f g : Nat → Option α} (h : ¬ c) (k : Ev g r) : Ev (fun n => if c then f n else g n) r := Ev.congr (fun n => if_neg h) k
theorem ev_bind0 {g : Option β} {f : Nat → β → Option α} {a : β} (h : g = some a) (k : Ev (fun n => f n a) r) : Ev (fun n => g.bind (f n)) r := Ev.congr (fun n => by rw [h]; rfl) k
theorem ev_eq {g : Nat → Option α} {r' : α} (k : Ev g r) (h : r = r') : Ev g r' := h ▸ k
/-- A test that tells by a bool of which only the value is known. -/
theorem ev_ite {c : Prop} [Decidable c] {f g : Nat → Option α} (h1 : c → Ev f r) (h2 : ¬ c → Ev g r) : Ev (fun n => if c then f n else g n) r := by
  by_cases h : c
  · exact ev_pos h (h1 h)
  · exact ev_neg h (h2 h)
end

theorem rd_nat (xs : List Int) (i : Nat) (h : i < xs.length) : rd xs (i : Int) = xs[i] := by
  unfold rd
  rw [Int.toNat_natCast, List.getD_eq_getElem?_getD, List.getElem?_eq_getElem h]
  rfl
theorem rd_get {xs : List Int} {i : Nat} {v : Int} (h : xs[i]? = some v) : rd xs (i : Int) = v := by
  unfold rd
  rw [Int.toNat_natCast, List.getD_eq_getElem?_getD, h]
  rfl
theorem at_drop {α : Type} {xs : List α} {i : Nat} {z : α} {zs : List α} (h : xs.drop i = z :: zs) : i < xs.length ∧ xs[i]? = some z ∧ xs.drop (i + 1) = zs ∧ xs.length = i + 1 + zs.length := by
  have hl : (xs.drop i).length = zs.length + 1 := by rw [h]; rfl
  rw [List.length_drop] at hl
  have hi : i < xs.length := by omega
  rw [List.drop_eq_getElem_cons hi] at h
  injection h with h1 h2
  exact ⟨hi, by rw [List.getElem?_eq_getElem hi, h1], h2, by omega⟩
theorem at_end {α : Type} {xs : List α} {i : Nat} (h : xs.drop i = []) : xs.length ≤ i := by
  have hl : (xs.drop i).length = 0 := by rw [h]; rfl
  rw [List.length_drop] at hl
  omega
theorem getD_at {α : Type} {xs : List α} {i : Nat} {z d : α} (h : xs[i]? = some z) : xs.getD ((i : Nat) : Int).toNat d = z := by
  rw [Int.toNat_natCast, List.getD_eq_getElem?_getD, h]
  rfl
theorem take_at {α : Type} {xs : List α} {i : Nat} {z : α} (h : xs[i]? = some z) : xs.take (i + 1) = xs.take i ++ [z] := by
  rw [List.take_add_one, h]
  rfl
end Go.Proofs.Ytdlobolnajcfnaa.Base
