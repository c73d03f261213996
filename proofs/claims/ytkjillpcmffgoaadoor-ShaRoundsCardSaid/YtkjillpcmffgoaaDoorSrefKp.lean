/- Part of the proofs: what functions of the program do: plain functions, and the walks that show it. No condition. -/
import Derived.KernelRfl
import Derived.Test.YtkjillpcmffgoaaDoorLd
import Derived.Test.YtkjillpcmffgoaaDoorFref02a
import Derived.Test.YtkjillpcmffgoaaDoorSshaK
set_option linter.unusedVariables false
set_option linter.unusedSimpArgs false
set_option autoImplicit false
namespace Go.Proofs.YtkjillpcmffgoaaDoor.M
open Go
theorem ref02_primes64 : ref02_primes_z 64 = some [2, 3, 5, 7, 11, 13, 17, 19, 23, 29, 31, 37, 41, 43, 47, 53, 59, 61, 67, 71, 73, 79, 83, 89, 97, 101, 103, 107, 109, 113, 127, 131, 137, 139, 149, 151, 157, 163, 167, 173, 179, 181, 191, 193, 197, 199, 211, 223, 227, 229, 233, 239, 241, 251, 257, 263, 269, 271, 277, 281, 283, 293, 307, 311] := by decide +kernel
theorem ref02_part_0 : ref02_part_z 2 true = some 0x428a2f98 := by decide +kernel
theorem ref02_part_1 : ref02_part_z 3 true = some 0x71374491 := by decide +kernel
theorem ref02_part_2 : ref02_part_z 5 true = some 0xb5c0fbcf := by decide +kernel
theorem ref02_part_3 : ref02_part_z 7 true = some 0xe9b5dba5 := by decide +kernel
theorem ref02_part_4 : ref02_part_z 11 true = some 0x3956c25b := by decide +kernel
theorem ref02_part_5 : ref02_part_z 13 true = some 0x59f111f1 := by decide +kernel
theorem ref02_part_6 : ref02_part_z 17 true = some 0x923f82a4 := by decide +kernel
theorem ref02_part_7 : ref02_part_z 19 true = some 0xab1c5ed5 := by decide +kernel
theorem ref02_part_8 : ref02_part_z 23 true = some 0xd807aa98 := by decide +kernel
theorem ref02_part_9 : ref02_part_z 29 true = some 0x12835b01 := by decide +kernel
theorem ref02_part_10 : ref02_part_z 31 true = some 0x243185be := by decide +kernel
theorem ref02_part_11 : ref02_part_z 37 true = some 0x550c7dc3 := by decide +kernel
theorem ref02_part_12 : ref02_part_z 41 true = some 0x72be5d74 := by decide +kernel
theorem ref02_part_13 : ref02_part_z 43 true = some 0x80deb1fe := by decide +kernel
theorem ref02_part_14 : ref02_part_z 47 true = some 0x9bdc06a7 := by decide +kernel
theorem ref02_part_15 : ref02_part_z 53 true = some 0xc19bf174 := by decide +kernel
theorem ref02_part_16 : ref02_part_z 59 true = some 0xe49b69c1 := by decide +kernel
theorem ref02_part_17 : ref02_part_z 61 true = some 0xefbe4786 := by decide +kernel
theorem ref02_part_18 : ref02_part_z 67 true = some 0x0fc19dc6 := by decide +kernel
theorem ref02_part_19 : ref02_part_z 71 true = some 0x240ca1cc := by decide +kernel
theorem ref02_part_20 : ref02_part_z 73 true = some 0x2de92c6f := by decide +kernel
theorem ref02_part_21 : ref02_part_z 79 true = some 0x4a7484aa := by decide +kernel
theorem ref02_part_22 : ref02_part_z 83 true = some 0x5cb0a9dc := by decide +kernel
theorem ref02_part_23 : ref02_part_z 89 true = some 0x76f988da := by decide +kernel
theorem ref02_part_24 : ref02_part_z 97 true = some 0x983e5152 := by decide +kernel
theorem ref02_part_25 : ref02_part_z 101 true = some 0xa831c66d := by decide +kernel
theorem ref02_part_26 : ref02_part_z 103 true = some 0xb00327c8 := by decide +kernel
theorem ref02_part_27 : ref02_part_z 107 true = some 0xbf597fc7 := by decide +kernel
theorem ref02_part_28 : ref02_part_z 109 true = some 0xc6e00bf3 := by decide +kernel
theorem ref02_part_29 : ref02_part_z 113 true = some 0xd5a79147 := by decide +kernel
theorem ref02_part_30 : ref02_part_z 127 true = some 0x06ca6351 := by decide +kernel
theorem ref02_part_31 : ref02_part_z 131 true = some 0x14292967 := by decide +kernel
theorem ref02_part_32 : ref02_part_z 137 true = some 0x27b70a85 := by decide +kernel
theorem ref02_part_33 : ref02_part_z 139 true = some 0x2e1b2138 := by decide +kernel
theorem ref02_part_34 : ref02_part_z 149 true = some 0x4d2c6dfc := by decide +kernel
theorem ref02_part_35 : ref02_part_z 151 true = some 0x53380d13 := by decide +kernel
theorem ref02_part_36 : ref02_part_z 157 true = some 0x650a7354 := by decide +kernel
theorem ref02_part_37 : ref02_part_z 163 true = some 0x766a0abb := by decide +kernel
theorem ref02_part_38 : ref02_part_z 167 true = some 0x81c2c92e := by decide +kernel
theorem ref02_part_39 : ref02_part_z 173 true = some 0x92722c85 := by decide +kernel
theorem ref02_part_40 : ref02_part_z 179 true = some 0xa2bfe8a1 := by decide +kernel
theorem ref02_part_41 : ref02_part_z 181 true = some 0xa81a664b := by decide +kernel
theorem ref02_part_42 : ref02_part_z 191 true = some 0xc24b8b70 := by decide +kernel
theorem ref02_part_43 : ref02_part_z 193 true = some 0xc76c51a3 := by decide +kernel
theorem ref02_part_44 : ref02_part_z 197 true = some 0xd192e819 := by decide +kernel
theorem ref02_part_45 : ref02_part_z 199 true = some 0xd6990624 := by decide +kernel
theorem ref02_part_46 : ref02_part_z 211 true = some 0xf40e3585 := by decide +kernel
theorem ref02_part_47 : ref02_part_z 223 true = some 0x106aa070 := by decide +kernel
theorem ref02_part_48 : ref02_part_z 227 true = some 0x19a4c116 := by decide +kernel
theorem ref02_part_49 : ref02_part_z 229 true = some 0x1e376c08 := by decide +kernel
theorem ref02_part_50 : ref02_part_z 233 true = some 0x2748774c := by decide +kernel
theorem ref02_part_51 : ref02_part_z 239 true = some 0x34b0bcb5 := by decide +kernel
theorem ref02_part_52 : ref02_part_z 241 true = some 0x391c0cb3 := by decide +kernel
theorem ref02_part_53 : ref02_part_z 251 true = some 0x4ed8aa4a := by decide +kernel
theorem ref02_part_54 : ref02_part_z 257 true = some 0x5b9cca4f := by decide +kernel
theorem ref02_part_55 : ref02_part_z 263 true = some 0x682e6ff3 := by decide +kernel
theorem ref02_part_56 : ref02_part_z 269 true = some 0x748f82ee := by decide +kernel
theorem ref02_part_57 : ref02_part_z 271 true = some 0x78a5636f := by decide +kernel
theorem ref02_part_58 : ref02_part_z 277 true = some 0x84c87814 := by decide +kernel
theorem ref02_part_59 : ref02_part_z 281 true = some 0x8cc70208 := by decide +kernel
theorem ref02_part_60 : ref02_part_z 283 true = some 0x90befffa := by decide +kernel
theorem ref02_part_61 : ref02_part_z 293 true = some 0xa4506ceb := by decide +kernel
theorem ref02_part_62 : ref02_part_z 307 true = some 0xbef9a3f7 := by decide +kernel
theorem ref02_part_63 : ref02_part_z 311 true = some 0xc67178f2 := by decide +kernel
def ref02_l64 : List UInt64 := [2, 3, 5, 7, 11, 13, 17, 19, 23, 29, 31, 37, 41, 43, 47, 53, 59, 61, 67, 71, 73, 79, 83, 89, 97, 101, 103, 107, 109, 113, 127, 131, 137, 139, 149, 151, 157, 163, 167, 173, 179, 181, 191, 193, 197, 199, 211, 223, 227, 229, 233, 239, 241, 251, 257, 263, 269, 271, 277, 281, 283, 293, 307, 311]
theorem ref02_parts : ∀ i, i < 64 → ref02_part_z (List.getD ref02_l64 i 0) true = some (List.getD (Vector.toList shaK) i 0)
  | 0, _ => ref02_part_0
  | 1, _ => ref02_part_1
  | 2, _ => ref02_part_2
  | 3, _ => ref02_part_3
  | 4, _ => ref02_part_4
  | 5, _ => ref02_part_5
  | 6, _ => ref02_part_6
  | 7, _ => ref02_part_7
  | 8, _ => ref02_part_8
  | 9, _ => ref02_part_9
  | 10, _ => ref02_part_10
  | 11, _ => ref02_part_11
  | 12, _ => ref02_part_12
  | 13, _ => ref02_part_13
  | 14, _ => ref02_part_14
  | 15, _ => ref02_part_15
  | 16, _ => ref02_part_16
  | 17, _ => ref02_part_17
  | 18, _ => ref02_part_18
  | 19, _ => ref02_part_19
  | 20, _ => ref02_part_20
  | 21, _ => ref02_part_21
  | 22, _ => ref02_part_22
  | 23, _ => ref02_part_23
  | 24, _ => ref02_part_24
  | 25, _ => ref02_part_25
  | 26, _ => ref02_part_26
  | 27, _ => ref02_part_27
  | 28, _ => ref02_part_28
  | 29, _ => ref02_part_29
  | 30, _ => ref02_part_30
  | 31, _ => ref02_part_31
  | 32, _ => ref02_part_32
  | 33, _ => ref02_part_33
  | 34, _ => ref02_part_34
  | 35, _ => ref02_part_35
  | 36, _ => ref02_part_36
  | 37, _ => ref02_part_37
  | 38, _ => ref02_part_38
  | 39, _ => ref02_part_39
  | 40, _ => ref02_part_40
  | 41, _ => ref02_part_41
  | 42, _ => ref02_part_42
  | 43, _ => ref02_part_43
  | 44, _ => ref02_part_44
  | 45, _ => ref02_part_45
  | 46, _ => ref02_part_46
  | 47, _ => ref02_part_47
  | 48, _ => ref02_part_48
  | 49, _ => ref02_part_49
  | 50, _ => ref02_part_50
  | 51, _ => ref02_part_51
  | 52, _ => ref02_part_52
  | 53, _ => ref02_part_53
  | 54, _ => ref02_part_54
  | 55, _ => ref02_part_55
  | 56, _ => ref02_part_56
  | 57, _ => ref02_part_57
  | 58, _ => ref02_part_58
  | 59, _ => ref02_part_59
  | 60, _ => ref02_part_60
  | 61, _ => ref02_part_61
  | 62, _ => ref02_part_62
  | 63, _ => ref02_part_63
  | n + 64, h => absurd h (by omega)
end Go.Proofs.YtkjillpcmffgoaaDoor.M
