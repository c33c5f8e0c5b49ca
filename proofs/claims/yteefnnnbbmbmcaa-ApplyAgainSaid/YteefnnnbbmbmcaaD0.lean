/- The digest: plain. No program in sight. -/
import Derived.Test.YteefnnnbbmbmcaaP1
namespace Go.Proofs.Yteefnnnbbmbmcaa
def at0 (S : List (BitVec 64)) (i : Nat) : BitVec 64 := S.getD i 0
def colL (S : List (BitVec 64)) (x : Nat) : BitVec 64 := at0 S x ^^^ at0 S (x + 5) ^^^ at0 S (x + 10) ^^^ at0 S (x + 15) ^^^ at0 S (x + 20)
def turnL (x : BitVec 64) (n : Nat) : BitVec 64 := (x <<< n) ||| (x >>> (64 - n))
def mapL (n : Nat) (f : Nat → BitVec 64) : List (BitVec 64) := (List.range n).map f
def thAt (S C : List (BitVec 64)) (i : Nat) : BitVec 64 := at0 S i ^^^ (at0 C ((i % 5 + 4) % 5) ^^^ turnL (at0 C ((i % 5 + 1) % 5)) 1)
def thL (S C : List (BitVec 64)) (k : Nat) : List (BitVec 64) := mapL 25 fun i => if i < k then thAt S C i else at0 S i
def goesT : List Nat := [10, 7, 11, 17, 18, 3, 5, 16, 8, 21, 24, 4, 15, 23, 19, 13, 12, 2, 20, 14, 22, 9, 6, 1]
def turnsT : List Nat := [1, 3, 6, 10, 15, 21, 28, 36, 45, 55, 2, 14, 27, 41, 56, 8, 25, 43, 62, 18, 39, 61, 20, 44]
def roundsT : List Nat := [1, 32898, 9223372036854808714, 9223372039002292224, 32907, 2147483649, 9223372039002292353, 9223372036854808585, 138, 136, 2147516425, 2147483658, 2147516555, 9223372036854775947, 9223372036854808713, 9223372036854808579, 9223372036854808578, 9223372036854775936, 32778, 9223372039002259466, 9223372039002292353, 9223372036854808704, 2147483649, 9223372039002292232]
def goesN (i : Nat) : Nat := goesT.getD i 0
def turnsN (i : Nat) : Nat := turnsT.getD i 0
def roundB (i : Nat) : BitVec 64 := BitVec.ofNat 64 (roundsT.getD i 0)
def rhoL (S : List (BitVec 64)) : Nat → List (BitVec 64) × BitVec 64
  | 0 => (S, at0 S 1)
  | k + 1 => let p := rhoL S k; (p.1.set (goesN k) (turnL p.2 (turnsN k)), at0 p.1 (goesN k))
def chiAt (S : List (BitVec 64)) (i : Nat) : BitVec 64 := at0 S i ^^^ (~~~ (at0 S (i / 5 * 5 + (i % 5 + 1) % 5)) &&& at0 S (i / 5 * 5 + (i % 5 + 2) % 5))
def chiL (S : List (BitVec 64)) : List (BitVec 64) := mapL 25 (chiAt S)
def stirL (S : List (BitVec 64)) (r : Nat) : List (BitVec 64) :=
  let a := thL S ((List.range 5).map (colL S)) 25
  let b := (rhoL a 24).1
  let c := chiL b
  c.set 0 (at0 c 0 ^^^ roundB r)
def stirsL (S : List (BitVec 64)) (n : Nat) : List (BitVec 64) := (List.range n).foldl stirL S
def padL (b : List UInt8) : List UInt8 :=
  let p := b ++ [6]
  let q := p ++ List.replicate ((136 - p.length % 136) % 136) 0
  q.set (q.length - 1) (q.getD (q.length - 1) 0 ||| 128)
def mixL (S : List (BitVec 64)) (p : List UInt8) (n : Nat) : List (BitVec 64) :=
  (List.range n).foldl (fun S i => S.set (i / 8) (at0 S (i / 8) ^^^ (BitVec.ofNat 64 (p.getD i 0).toNat <<< (i % 8 * 8)))) S
def absorbL (S : List (BitVec 64)) : List UInt8 → Nat → List (BitVec 64)
  | _, 0 => S
  | p, n + 1 => absorbL (stirsL (mixL S p 136) 24) (p.drop 136) n
def outL (S : List (BitVec 64)) : List UInt8 := (List.range 32).map fun i => UInt8.ofNat ((at0 S (i / 8) >>> (i % 8 * 8)).toNat % 256)
def sumL (b : List UInt8) : List UInt8 := outL (absorbL (List.replicate 25 0) (padL b) ((padL b).length / 136))
theorem mapL_len (n : Nat) (f : Nat → BitVec 64) : (mapL n f).length = n := by simp [mapL]
theorem sumL_len (b : List UInt8) : (sumL b).length = 32 := by simp [sumL, outL]
/-- The digest of a kind and of parts, each behind its length. -/
def partB (p : By) : By := UInt8.ofNat (p.length / 256) :: UInt8.ofNat (p.length % 256) :: p
def partsB (k : UInt8) (ps : List By) : By := k :: ps.flatMap partB
def partsL (k : UInt8) (ps : List By) : By := sumL (partsB k ps)
theorem partsL_len (k : UInt8) (ps : List By) : (partsL k ps).length = 32 := sumL_len _
end Go.Proofs.Yteefnnnbbmbmcaa
