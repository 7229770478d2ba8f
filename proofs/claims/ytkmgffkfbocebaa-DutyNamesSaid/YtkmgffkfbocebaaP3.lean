/- Lemmas for the proof: an abstract machine over the program's form in Lean, and the program's functions walked on it. -/
import Derived.Test.YtkmgffkfbocebaaP2
import Derived.Test.YtkmgffkfbocebaaProg
import Derived.KernelRfl
/- Accounts in plain Lean, and how they lie in abstract values. -/
section
namespace AM.Duty
open Go AM
structure Rate where
  day : Int
  pence : Int
  deriving DecidableEq
structure Entry where
  kind : Int
  day : Int
  lo : Int
  hi : Int
  pence : Int
  deriving DecidableEq
structure Acc where
  last : Int
  interest : Int
  bond : Int
  purse : Int
  rates : List Rate
  entries : List Entry
instance : Inhabited Rate := ⟨⟨0, 0⟩⟩
instance : Inhabited Entry := ⟨⟨0, 0, 0, 0, 0⟩⟩
abbrev encR (r : Rate) : List PV := [iv r.day, iv r.pence]
abbrev encE (e : Entry) : List PV := [iv e.kind, iv e.day, iv e.lo, iv e.hi, iv e.pence]
abbrev avE (e : Entry) : AV := .agg [i64 e.kind, i64 e.day, i64 e.lo, i64 e.hi, i64 e.pence]
abbrev avA (a : Acc) : AV := .agg [i64 a.last, i64 a.interest, i64 a.bond, i64 a.purse, .p (.sl (a.rates.map encR)), .p (.sl (a.entries.map encE))]
abbrev getE (l : List Entry) (k : Nat) : Entry := l.getD k default
abbrev getR (l : List Rate) (k : Nat) : Rate := l.getD k default
theorem encE_getD {l : List Entry} {k : Nat} (h : k < l.length) : (l.map encE).getD k [] = encE (getE l k) := getD_map _ _ _ h
theorem encR_getD {l : List Rate} {k : Nat} (h : k < l.length) : (l.map encR).getD k [] = encR (getR l k) := getD_map _ _ _ h
theorem map_p {a : PV} {l : List PV} : List.map AV.p (a :: l) = .p a :: List.map AV.p l := rfl
def inB (n lo hi : Int) : Bool := decide (lo ≤ n) && decide (n ≤ hi)
def isEntry (last : Int) (e : Entry) : Bool := inB e.day 0 last &&
  (if e.kind = 0 then decide (0 ≤ e.lo) && (decide (e.lo ≤ e.hi) && (decide (e.hi ≤ 50) && decide (e.pence = 0)))
   else if e.kind = 1 then decide (e.lo = 0) && (decide (e.hi = 0) && inB e.pence 1 100000)
   else if e.kind = 2 then inB e.lo 1 50 && (decide (e.hi = e.lo) && decide (e.pence = 0))
   else if e.kind = 3 then decide (e.lo = 0) && (decide (e.hi = 0) && inB e.pence (-100000) 100000)
   else false)
end AM.Duty
namespace AM
theorem ite_no {c : Prop} [Decidable c] {α : Type} {a b : α} (h : ¬ c) : (if c then a else b) = b := if_neg h
end AM
end
/- What the program's tables say of its types, read off once. -/
section
namespace AM.Try
open Go AM
theorem ty1 : tyOf Go.Proofs.Try.prog 1 = { k := .other, sz := 1, bytes := 8, zero := [.nilFunc] } := by kernel_rfl
theorem ty2 : tyOf Go.Proofs.Try.prog 2 = { k := .int .i64, sz := 1, bytes := 8, zero := [.int .i64 0] } := by kernel_rfl
theorem ty3 : tyOf Go.Proofs.Try.prog 3 = { k := .int .i64, sz := 1, bytes := 8, zero := [.int .i64 0] } := by kernel_rfl
theorem ty4 : tyOf Go.Proofs.Try.prog 4 = { k := .bool, sz := 1, bytes := 1, zero := [.bool false] } := by kernel_rfl
theorem ty5 : tyOf Go.Proofs.Try.prog 5 = { k := .int .u8, sz := 1, bytes := 1, zero := [.int .u8 0] } := by kernel_rfl
theorem ty6 : tyOf Go.Proofs.Try.prog 6 = { k := .int .u8, sz := 1, bytes := 1, zero := [.int .u8 0] } := by kernel_rfl
theorem ty7 : tyOf Go.Proofs.Try.prog 7 = { k := .struct [(0, 2), (1, 3), (2, 4), (3, 6)], sz := 4, bytes := 24, zero := [.int .i64 0, .int .i64 0, .bool false, .int .u8 0] } := by kernel_rfl
theorem ty8 : tyOf Go.Proofs.Try.prog 8 = { k := .struct [(0, 2), (1, 3), (2, 4), (3, 6)], sz := 4, bytes := 24, zero := [.int .i64 0, .int .i64 0, .bool false, .int .u8 0] } := by kernel_rfl
theorem ty12 : tyOf Go.Proofs.Try.prog 12 = { k := .int .u64, sz := 1, bytes := 8, zero := [.int .u64 0] } := by kernel_rfl
theorem ty15 : tyOf Go.Proofs.Try.prog 15 = { k := .other, sz := 1, bytes := 8, zero := [.pointer none] } := by kernel_rfl
theorem ty16 : tyOf Go.Proofs.Try.prog 16 = { k := .other, sz := 1, bytes := 8, zero := [.pointer none] } := by kernel_rfl
theorem ty17 : tyOf Go.Proofs.Try.prog 17 = { k := .other, sz := 1, bytes := 8, zero := [.pointer none] } := by kernel_rfl
theorem ty18 : tyOf Go.Proofs.Try.prog 18 = { k := .struct [(0, 17)], sz := 1, bytes := 8, zero := [.pointer none] } := by kernel_rfl
theorem ty19 : tyOf Go.Proofs.Try.prog 19 = { k := .struct [(0, 17)], sz := 1, bytes := 8, zero := [.pointer none] } := by kernel_rfl
theorem ty21 : tyOf Go.Proofs.Try.prog 21 = { k := .int .i32, sz := 1, bytes := 4, zero := [.int .i32 0] } := by kernel_rfl
theorem ty22 : tyOf Go.Proofs.Try.prog 22 = { k := .sl 92, sz := 1, bytes := 24, zero := [.slice none 0 0] } := by kernel_rfl
theorem ty23 : tyOf Go.Proofs.Try.prog 23 = { k := .sl 78, sz := 1, bytes := 24, zero := [.slice none 0 0] } := by kernel_rfl
theorem ty24 : tyOf Go.Proofs.Try.prog 24 = { k := .struct [(0, 3), (1, 3), (2, 3), (3, 3), (4, 22), (5, 23)], sz := 6, bytes := 80, zero := [.int .i64 0, .int .i64 0, .int .i64 0, .int .i64 0, .slice none 0 0, .slice none 0 0] } := by kernel_rfl
theorem ty25 : tyOf Go.Proofs.Try.prog 25 = { k := .struct [(0, 3), (1, 3), (2, 3), (3, 3), (4, 22), (5, 23)], sz := 6, bytes := 80, zero := [.int .i64 0, .int .i64 0, .int .i64 0, .int .i64 0, .slice none 0 0, .slice none 0 0] } := by kernel_rfl
theorem ty26 : tyOf Go.Proofs.Try.prog 26 = { k := .sl 3, sz := 1, bytes := 24, zero := [.slice none 0 0] } := by kernel_rfl
theorem ty27 : tyOf Go.Proofs.Try.prog 27 = { k := .other, sz := 1, bytes := 8, zero := [.nilFunc] } := by kernel_rfl
theorem ty28 : tyOf Go.Proofs.Try.prog 28 = { k := .other, sz := 1, bytes := 8, zero := [.nilFunc] } := by kernel_rfl
theorem ty29 : tyOf Go.Proofs.Try.prog 29 = { k := .int .i64, sz := 1, bytes := 8, zero := [.int .i64 0] } := by kernel_rfl
theorem ty31 : tyOf Go.Proofs.Try.prog 31 = { k := .other, sz := 1, bytes := 8, zero := [.nilFunc] } := by kernel_rfl
theorem ty32 : tyOf Go.Proofs.Try.prog 32 = { k := .sl 69, sz := 1, bytes := 24, zero := [.slice none 0 0] } := by kernel_rfl
theorem ty33 : tyOf Go.Proofs.Try.prog 33 = { k := .sl 66, sz := 1, bytes := 24, zero := [.slice none 0 0] } := by kernel_rfl
theorem ty34 : tyOf Go.Proofs.Try.prog 34 = { k := .struct [(0, 3), (1, 3), (2, 3), (3, 3), (4, 32), (5, 33)], sz := 6, bytes := 80, zero := [.int .i64 0, .int .i64 0, .int .i64 0, .int .i64 0, .slice none 0 0, .slice none 0 0] } := by kernel_rfl
theorem ty35 : tyOf Go.Proofs.Try.prog 35 = { k := .struct [(0, 3), (1, 3), (2, 3), (3, 3), (4, 32), (5, 33)], sz := 6, bytes := 80, zero := [.int .i64 0, .int .i64 0, .int .i64 0, .int .i64 0, .slice none 0 0, .slice none 0 0] } := by kernel_rfl
theorem ty36 : tyOf Go.Proofs.Try.prog 36 = { k := .other, sz := 1, bytes := 8, zero := [.nilFunc] } := by kernel_rfl
theorem ty37 : tyOf Go.Proofs.Try.prog 37 = { k := .other, sz := 1, bytes := 8, zero := [.nilFunc] } := by kernel_rfl
theorem ty38 : tyOf Go.Proofs.Try.prog 38 = { k := .other, sz := 1, bytes := 8, zero := [.nilFunc] } := by kernel_rfl
theorem ty39 : tyOf Go.Proofs.Try.prog 39 = { k := .other, sz := 1, bytes := 8, zero := [.nilFunc] } := by kernel_rfl
theorem ty40 : tyOf Go.Proofs.Try.prog 40 = { k := .other, sz := 1, bytes := 8, zero := [.nilFunc] } := by kernel_rfl
theorem ty42 : tyOf Go.Proofs.Try.prog 42 = { k := .other, sz := 1, bytes := 8, zero := [.nilFunc] } := by kernel_rfl
theorem ty43 : tyOf Go.Proofs.Try.prog 43 = { k := .other, sz := 1, bytes := 8, zero := [.nilFunc] } := by kernel_rfl
theorem ty44 : tyOf Go.Proofs.Try.prog 44 = { k := .other, sz := 1, bytes := 8, zero := [.nilFunc] } := by kernel_rfl
theorem ty45 : tyOf Go.Proofs.Try.prog 45 = { k := .sl 54, sz := 1, bytes := 24, zero := [.slice none 0 0] } := by kernel_rfl
theorem ty47 : tyOf Go.Proofs.Try.prog 47 = { k := .other, sz := 1, bytes := 8, zero := [.nilFunc] } := by kernel_rfl
theorem ty49 : tyOf Go.Proofs.Try.prog 49 = { k := .other, sz := 1, bytes := 8, zero := [.nilFunc] } := by kernel_rfl
theorem ty50 : tyOf Go.Proofs.Try.prog 50 = { k := .sl 26, sz := 1, bytes := 24, zero := [.slice none 0 0] } := by kernel_rfl
theorem ty51 : tyOf Go.Proofs.Try.prog 51 = { k := .other, sz := 1, bytes := 8, zero := [.nilFunc] } := by kernel_rfl
theorem ty52 : tyOf Go.Proofs.Try.prog 52 = { k := .other, sz := 1, bytes := 8, zero := [.nilFunc] } := by kernel_rfl
theorem ty53 : tyOf Go.Proofs.Try.prog 53 = { k := .struct [(0, 3), (1, 3)], sz := 2, bytes := 16, zero := [.int .i64 0, .int .i64 0] } := by kernel_rfl
theorem ty54 : tyOf Go.Proofs.Try.prog 54 = { k := .struct [(0, 3), (1, 3)], sz := 2, bytes := 16, zero := [.int .i64 0, .int .i64 0] } := by kernel_rfl
theorem ty55 : tyOf Go.Proofs.Try.prog 55 = { k := .other, sz := 1, bytes := 8, zero := [.nilFunc] } := by kernel_rfl
theorem ty56 : tyOf Go.Proofs.Try.prog 56 = { k := .struct [(0, 3), (1, 3)], sz := 2, bytes := 16, zero := [.int .i64 0, .int .i64 0] } := by kernel_rfl
theorem ty57 : tyOf Go.Proofs.Try.prog 57 = { k := .other, sz := 1, bytes := 8, zero := [.nilFunc] } := by kernel_rfl
theorem ty58 : tyOf Go.Proofs.Try.prog 58 = { k := .other, sz := 1, bytes := 8, zero := [.nilFunc] } := by kernel_rfl
theorem ty59 : tyOf Go.Proofs.Try.prog 59 = { k := .other, sz := 1, bytes := 8, zero := [.nilFunc] } := by kernel_rfl
theorem ty60 : tyOf Go.Proofs.Try.prog 60 = { k := .other, sz := 1, bytes := 8, zero := [.nilFunc] } := by kernel_rfl
theorem ty61 : tyOf Go.Proofs.Try.prog 61 = { k := .other, sz := 1, bytes := 8, zero := [.nilFunc] } := by kernel_rfl
theorem ty62 : tyOf Go.Proofs.Try.prog 62 = { k := .other, sz := 1, bytes := 8, zero := [.nilFunc] } := by kernel_rfl
theorem ty63 : tyOf Go.Proofs.Try.prog 63 = { k := .other, sz := 1, bytes := 8, zero := [.nilFunc] } := by kernel_rfl
theorem ty64 : tyOf Go.Proofs.Try.prog 64 = { k := .other, sz := 1, bytes := 8, zero := [.nilFunc] } := by kernel_rfl
theorem ty65 : tyOf Go.Proofs.Try.prog 65 = { k := .struct [(0, 3), (1, 3), (2, 54), (4, 3)], sz := 5, bytes := 40, zero := [.int .i64 0, .int .i64 0, .int .i64 0, .int .i64 0, .int .i64 0] } := by kernel_rfl
theorem ty66 : tyOf Go.Proofs.Try.prog 66 = { k := .struct [(0, 3), (1, 3), (2, 54), (4, 3)], sz := 5, bytes := 40, zero := [.int .i64 0, .int .i64 0, .int .i64 0, .int .i64 0, .int .i64 0] } := by kernel_rfl
theorem ty67 : tyOf Go.Proofs.Try.prog 67 = { k := .other, sz := 1, bytes := 8, zero := [.nilFunc] } := by kernel_rfl
theorem ty68 : tyOf Go.Proofs.Try.prog 68 = { k := .struct [(0, 3), (1, 3)], sz := 2, bytes := 16, zero := [.int .i64 0, .int .i64 0] } := by kernel_rfl
theorem ty69 : tyOf Go.Proofs.Try.prog 69 = { k := .struct [(0, 3), (1, 3)], sz := 2, bytes := 16, zero := [.int .i64 0, .int .i64 0] } := by kernel_rfl
theorem ty70 : tyOf Go.Proofs.Try.prog 70 = { k := .int .u16, sz := 1, bytes := 2, zero := [.int .u16 0] } := by kernel_rfl
theorem ty72 : tyOf Go.Proofs.Try.prog 72 = { k := .other, sz := 1, bytes := 8, zero := [.nilFunc] } := by kernel_rfl
theorem ty73 : tyOf Go.Proofs.Try.prog 73 = { k := .other, sz := 1, bytes := 8, zero := [.nilFunc] } := by kernel_rfl
theorem ty74 : tyOf Go.Proofs.Try.prog 74 = { k := .other, sz := 1, bytes := 8, zero := [.nilFunc] } := by kernel_rfl
theorem ty75 : tyOf Go.Proofs.Try.prog 75 = { k := .arr 12 4, sz := 12, bytes := 12, zero := [.bool false, .bool false, .bool false, .bool false, .bool false, .bool false, .bool false, .bool false, .bool false, .bool false, .bool false, .bool false] } := by kernel_rfl
theorem ty76 : tyOf Go.Proofs.Try.prog 76 = { k := .other, sz := 1, bytes := 8, zero := [.nilFunc] } := by kernel_rfl
theorem ty77 : tyOf Go.Proofs.Try.prog 77 = { k := .struct [(0, 3), (1, 3), (2, 56), (4, 3)], sz := 5, bytes := 40, zero := [.int .i64 0, .int .i64 0, .int .i64 0, .int .i64 0, .int .i64 0] } := by kernel_rfl
theorem ty78 : tyOf Go.Proofs.Try.prog 78 = { k := .struct [(0, 3), (1, 3), (2, 56), (4, 3)], sz := 5, bytes := 40, zero := [.int .i64 0, .int .i64 0, .int .i64 0, .int .i64 0, .int .i64 0] } := by kernel_rfl
theorem ty79 : tyOf Go.Proofs.Try.prog 79 = { k := .other, sz := 1, bytes := 8, zero := [.nilFunc] } := by kernel_rfl
theorem ty80 : tyOf Go.Proofs.Try.prog 80 = { k := .int .u64, sz := 1, bytes := 8, zero := [.int .u64 0] } := by kernel_rfl
theorem ty81 : tyOf Go.Proofs.Try.prog 81 = { k := .other, sz := 1, bytes := 8, zero := [.nilFunc] } := by kernel_rfl
theorem ty82 : tyOf Go.Proofs.Try.prog 82 = { k := .other, sz := 1, bytes := 8, zero := [.nilFunc] } := by kernel_rfl
theorem ty83 : tyOf Go.Proofs.Try.prog 83 = { k := .other, sz := 1, bytes := 8, zero := [.nilFunc] } := by kernel_rfl
theorem ty84 : tyOf Go.Proofs.Try.prog 84 = { k := .other, sz := 1, bytes := 8, zero := [.nilFunc] } := by kernel_rfl
theorem ty85 : tyOf Go.Proofs.Try.prog 85 = { k := .other, sz := 1, bytes := 8, zero := [.nilFunc] } := by kernel_rfl
theorem ty86 : tyOf Go.Proofs.Try.prog 86 = { k := .other, sz := 1, bytes := 8, zero := [.nilFunc] } := by kernel_rfl
theorem ty87 : tyOf Go.Proofs.Try.prog 87 = { k := .other, sz := 1, bytes := 8, zero := [.nilFunc] } := by kernel_rfl
theorem ty88 : tyOf Go.Proofs.Try.prog 88 = { k := .other, sz := 1, bytes := 8, zero := [.nilFunc] } := by kernel_rfl
theorem ty89 : tyOf Go.Proofs.Try.prog 89 = { k := .other, sz := 1, bytes := 8, zero := [.nilFunc] } := by kernel_rfl
theorem ty90 : tyOf Go.Proofs.Try.prog 90 = { k := .other, sz := 1, bytes := 8, zero := [.pointer none] } := by kernel_rfl
theorem ty91 : tyOf Go.Proofs.Try.prog 91 = { k := .other, sz := 1, bytes := 8, zero := [.nilFunc] } := by kernel_rfl
theorem ty92 : tyOf Go.Proofs.Try.prog 92 = { k := .struct [(0, 3), (1, 3)], sz := 2, bytes := 16, zero := [.int .i64 0, .int .i64 0] } := by kernel_rfl
theorem ty93 : tyOf Go.Proofs.Try.prog 93 = { k := .other, sz := 1, bytes := 8, zero := [.nilFunc] } := by kernel_rfl
theorem ty94 : tyOf Go.Proofs.Try.prog 94 = { k := .arr 12 3, sz := 12, bytes := 96, zero := [.int .i64 0, .int .i64 0, .int .i64 0, .int .i64 0, .int .i64 0, .int .i64 0, .int .i64 0, .int .i64 0, .int .i64 0, .int .i64 0, .int .i64 0, .int .i64 0] } := by kernel_rfl
theorem ty95 : tyOf Go.Proofs.Try.prog 95 = { k := .arr 12 3, sz := 12, bytes := 96, zero := [.int .i64 0, .int .i64 0, .int .i64 0, .int .i64 0, .int .i64 0, .int .i64 0, .int .i64 0, .int .i64 0, .int .i64 0, .int .i64 0, .int .i64 0, .int .i64 0] } := by kernel_rfl
theorem ty97 : tyOf Go.Proofs.Try.prog 97 = { k := .other, sz := 1, bytes := 8, zero := [.nilFunc] } := by kernel_rfl
theorem ty98 : tyOf Go.Proofs.Try.prog 98 = { k := .other, sz := 1, bytes := 8, zero := [.nilFunc] } := by kernel_rfl
theorem ty99 : tyOf Go.Proofs.Try.prog 99 = { k := .other, sz := 1, bytes := 8, zero := [.nilFunc] } := by kernel_rfl
theorem ty100 : tyOf Go.Proofs.Try.prog 100 = { k := .other, sz := 1, bytes := 8, zero := [.nilFunc] } := by kernel_rfl
theorem ty101 : tyOf Go.Proofs.Try.prog 101 = { k := .other, sz := 1, bytes := 8, zero := [.nilFunc] } := by kernel_rfl
theorem ty102 : tyOf Go.Proofs.Try.prog 102 = { k := .other, sz := 1, bytes := 8, zero := [.nilFunc] } := by kernel_rfl
theorem ty103 : tyOf Go.Proofs.Try.prog 103 = { k := .other, sz := 1, bytes := 8, zero := [.nilFunc] } := by kernel_rfl
theorem ty104 : tyOf Go.Proofs.Try.prog 104 = { k := .other, sz := 1, bytes := 8, zero := [.nilFunc] } := by kernel_rfl
theorem ty105 : tyOf Go.Proofs.Try.prog 105 = { k := .other, sz := 1, bytes := 8, zero := [.nilFunc] } := by kernel_rfl
theorem ty106 : tyOf Go.Proofs.Try.prog 106 = { k := .other, sz := 1, bytes := 8, zero := [.nilFunc] } := by kernel_rfl
theorem ty107 : tyOf Go.Proofs.Try.prog 107 = { k := .other, sz := 1, bytes := 8, zero := [.nilFunc] } := by kernel_rfl
theorem ty108 : tyOf Go.Proofs.Try.prog 108 = { k := .other, sz := 1, bytes := 8, zero := [.nilFunc] } := by kernel_rfl
theorem ty109 : tyOf Go.Proofs.Try.prog 109 = { k := .other, sz := 1, bytes := 8, zero := [.nilFunc] } := by kernel_rfl
theorem ty110 : tyOf Go.Proofs.Try.prog 110 = { k := .other, sz := 1, bytes := 8, zero := [.nilFunc] } := by kernel_rfl
theorem ty111 : tyOf Go.Proofs.Try.prog 111 = { k := .other, sz := 1, bytes := 8, zero := [.nilFunc] } := by kernel_rfl
theorem ty112 : tyOf Go.Proofs.Try.prog 112 = { k := .other, sz := 1, bytes := 8, zero := [.nilFunc] } := by kernel_rfl
theorem ty113 : tyOf Go.Proofs.Try.prog 113 = { k := .other, sz := 1, bytes := 8, zero := [.pointer none] } := by kernel_rfl
theorem ty114 : tyOf Go.Proofs.Try.prog 114 = { k := .mp 123 3, sz := 1, bytes := 8, zero := [.map none] } := by kernel_rfl
theorem ty115 : tyOf Go.Proofs.Try.prog 115 = { k := .struct [(0, 35), (6, 3), (7, 3), (8, 114)], sz := 9, bytes := 104, zero := [.int .i64 0, .int .i64 0, .int .i64 0, .int .i64 0, .slice none 0 0, .slice none 0 0, .int .i64 0, .int .i64 0, .map none] } := by kernel_rfl
theorem ty116 : tyOf Go.Proofs.Try.prog 116 = { k := .struct [(0, 35), (6, 3), (7, 3), (8, 114)], sz := 9, bytes := 104, zero := [.int .i64 0, .int .i64 0, .int .i64 0, .int .i64 0, .slice none 0 0, .slice none 0 0, .int .i64 0, .int .i64 0, .map none] } := by kernel_rfl
theorem ty117 : tyOf Go.Proofs.Try.prog 117 = { k := .other, sz := 1, bytes := 8, zero := [.nilFunc] } := by kernel_rfl
theorem ty118 : tyOf Go.Proofs.Try.prog 118 = { k := .struct [(0, 117)], sz := 1, bytes := 8, zero := [.nilFunc] } := by kernel_rfl
theorem ty119 : tyOf Go.Proofs.Try.prog 119 = { k := .struct [(0, 117)], sz := 1, bytes := 8, zero := [.nilFunc] } := by kernel_rfl
theorem ty120 : tyOf Go.Proofs.Try.prog 120 = { k := .arr 4 119, sz := 4, bytes := 32, zero := [.nilFunc, .nilFunc, .nilFunc, .nilFunc] } := by kernel_rfl
theorem ty121 : tyOf Go.Proofs.Try.prog 121 = { k := .other, sz := 1, bytes := 8, zero := [.nilFunc] } := by kernel_rfl
theorem ty122 : tyOf Go.Proofs.Try.prog 122 = { k := .struct [(0, 66), (5, 3)], sz := 6, bytes := 48, zero := [.int .i64 0, .int .i64 0, .int .i64 0, .int .i64 0, .int .i64 0, .int .i64 0] } := by kernel_rfl
theorem ty123 : tyOf Go.Proofs.Try.prog 123 = { k := .struct [(0, 66), (5, 3)], sz := 6, bytes := 48, zero := [.int .i64 0, .int .i64 0, .int .i64 0, .int .i64 0, .int .i64 0, .int .i64 0] } := by kernel_rfl
theorem ty124 : tyOf Go.Proofs.Try.prog 124 = { k := .other, sz := 1, bytes := 8, zero := [.nilFunc] } := by kernel_rfl
theorem ty125 : tyOf Go.Proofs.Try.prog 125 = { k := .other, sz := 1, bytes := 8, zero := [.nilFunc] } := by kernel_rfl
theorem ty126 : tyOf Go.Proofs.Try.prog 126 = { k := .other, sz := 1, bytes := 8, zero := [.nilFunc] } := by kernel_rfl
theorem ty127 : tyOf Go.Proofs.Try.prog 127 = { k := .other, sz := 1, bytes := 8, zero := [.nilFunc] } := by kernel_rfl
theorem ty128 : tyOf Go.Proofs.Try.prog 128 = { k := .other, sz := 1, bytes := 8, zero := [.nilFunc] } := by kernel_rfl
theorem ty129 : tyOf Go.Proofs.Try.prog 129 = { k := .other, sz := 1, bytes := 8, zero := [.nilFunc] } := by kernel_rfl
theorem ty130 : tyOf Go.Proofs.Try.prog 130 = { k := .other, sz := 1, bytes := 8, zero := [.nilFunc] } := by kernel_rfl
theorem ty131 : tyOf Go.Proofs.Try.prog 131 = { k := .other, sz := 1, bytes := 8, zero := [.nilFunc] } := by kernel_rfl
theorem ty132 : tyOf Go.Proofs.Try.prog 132 = { k := .other, sz := 1, bytes := 8, zero := [.nilFunc] } := by kernel_rfl
theorem ty133 : tyOf Go.Proofs.Try.prog 133 = { k := .other, sz := 1, bytes := 8, zero := [.nilFunc] } := by kernel_rfl
theorem ty134 : tyOf Go.Proofs.Try.prog 134 = { k := .other, sz := 1, bytes := 8, zero := [.nilFunc] } := by kernel_rfl
theorem ty135 : tyOf Go.Proofs.Try.prog 135 = { k := .other, sz := 1, bytes := 8, zero := [.nilFunc] } := by kernel_rfl
theorem ty136 : tyOf Go.Proofs.Try.prog 136 = { k := .other, sz := 1, bytes := 8, zero := [.nilFunc] } := by kernel_rfl
theorem ty137 : tyOf Go.Proofs.Try.prog 137 = { k := .other, sz := 1, bytes := 8, zero := [.nilFunc] } := by kernel_rfl
theorem ty138 : tyOf Go.Proofs.Try.prog 138 = { k := .other, sz := 1, bytes := 8, zero := [.nilFunc] } := by kernel_rfl
theorem ty139 : tyOf Go.Proofs.Try.prog 139 = { k := .other, sz := 1, bytes := 8, zero := [.nilFunc] } := by kernel_rfl
theorem ty140 : tyOf Go.Proofs.Try.prog 140 = { k := .other, sz := 1, bytes := 8, zero := [.nilFunc] } := by kernel_rfl
theorem ty141 : tyOf Go.Proofs.Try.prog 141 = { k := .other, sz := 1, bytes := 8, zero := [.nilFunc] } := by kernel_rfl
theorem ty143 : tyOf Go.Proofs.Try.prog 143 = { k := .other, sz := 1, bytes := 8, zero := [.nilFunc] } := by kernel_rfl
theorem ty144 : tyOf Go.Proofs.Try.prog 144 = { k := .other, sz := 1, bytes := 8, zero := [.nilFunc] } := by kernel_rfl
theorem ty147 : tyOf Go.Proofs.Try.prog 147 = { k := .arr 0 16, sz := 0, bytes := 0, zero := [] } := by kernel_rfl
theorem ty148 : tyOf Go.Proofs.Try.prog 148 = { k := .struct [(0, 147)], sz := 0, bytes := 0, zero := [] } := by kernel_rfl
theorem ty149 : tyOf Go.Proofs.Try.prog 149 = { k := .struct [(0, 147)], sz := 0, bytes := 0, zero := [] } := by kernel_rfl
theorem ty150 : tyOf Go.Proofs.Try.prog 150 = { k := .int .u32, sz := 1, bytes := 4, zero := [.int .u32 0] } := by kernel_rfl
theorem ty151 : tyOf Go.Proofs.Try.prog 151 = { k := .int .u8, sz := 1, bytes := 1, zero := [.int .u8 0] } := by kernel_rfl
theorem ty152 : tyOf Go.Proofs.Try.prog 152 = { k := .int .u8, sz := 1, bytes := 1, zero := [.int .u8 0] } := by kernel_rfl
theorem ty153 : tyOf Go.Proofs.Try.prog 153 = { k := .other, sz := 1, bytes := 8, zero := [.nilFunc] } := by kernel_rfl
theorem ty154 : tyOf Go.Proofs.Try.prog 154 = { k := .other, sz := 1, bytes := 8, zero := [.pointer none] } := by kernel_rfl
theorem ty155 : tyOf Go.Proofs.Try.prog 155 = { k := .int .i32, sz := 1, bytes := 4, zero := [.int .i32 0] } := by kernel_rfl
theorem ty156 : tyOf Go.Proofs.Try.prog 156 = { k := .int .i32, sz := 1, bytes := 4, zero := [.int .i32 0] } := by kernel_rfl
theorem ty157 : tyOf Go.Proofs.Try.prog 157 = { k := .struct [(0, 12), (1, 12), (2, 150), (3, 151), (4, 5), (5, 5), (6, 152), (7, 153), (8, 154), (9, 155), (10, 156)], sz := 11, bytes := 48, zero := [.int .u64 0, .int .u64 0, .int .u32 0, .int .u8 0, .int .u8 0, .int .u8 0, .int .u8 0, .nilFunc, .pointer none, .int .i32 0, .int .i32 0] } := by kernel_rfl
theorem ty158 : tyOf Go.Proofs.Try.prog 158 = { k := .struct [(0, 12), (1, 12), (2, 150), (3, 151), (4, 5), (5, 5), (6, 152), (7, 153), (8, 154), (9, 155), (10, 156)], sz := 11, bytes := 48, zero := [.int .u64 0, .int .u64 0, .int .u32 0, .int .u8 0, .int .u8 0, .int .u8 0, .int .u8 0, .nilFunc, .pointer none, .int .i32 0, .int .i32 0] } := by kernel_rfl
theorem ty159 : tyOf Go.Proofs.Try.prog 159 = { k := .other, sz := 1, bytes := 8, zero := [.pointer none] } := by kernel_rfl
end AM.Try
end
/- The rewriting set of the walks, as one conjunction. -/
section
namespace AM.Try
open Go AM AM.Duty
def amLd0 := PLift.up (And.intro @EO_makeMap (And.intro @EO_lookup (And.intro @EO_mapUpdate (And.intro @one_nilFunc (And.intro @ev_nilFunc (And.intro @upd_eq (And.intro @livesT_nil (And.intro @livesT_cons (And.intro @lives_p_eq (And.intro @lives_undef_eq (And.intro @lives_ptr_eq (And.intro @lives_eptr_eq (And.intro @lives_own_eq (And.intro @lives_csl_eq (And.intro @lives_yld_eq (And.intro @lives_mp_eq (And.intro @livesL_nil (And.intro @livesL_cons (And.intro @lives_agg_eq (And.intro @lives_tup_eq (And.intro @lives_fn_eq (And.intro @lives_cells_eq (And.intro @lives_arr_eq (@lives_obj_eq))))))))))))))))))))))))
def amLd1 := PLift.up (And.intro @RetS_normal (And.intro @RetS_ret (And.intro @resRaws_1 (And.intro @resRaws_0 (And.intro @List.cons_append.{0} (And.intro @List.append_nil.{0} (And.intro @RB.b_mk (And.intro @RB.v_mk (And.intro @RB.q_mk (And.intro @EOc_e (And.intro @EOc_v (And.intro @EOc_q (And.intro @EO_callv (And.intro @keep_nil (And.intro @keep_cons (And.intro @RetF_normal (And.intro @RetF_ret (And.intro @Ret_normal (And.intro @ixs.eq_1 (And.intro @ixs.eq_2 (And.intro @T_nil (And.intro @T_cons (And.intro @O_nil (@O_cons))))))))))))))))))))))))
def amLd2 := PLift.up (And.intro @upd_T (And.intro @upd_O (And.intro @put_some (And.intro @put_none (And.intro @setO_mk (And.intro @purge_mk (And.intro @Ter_nil (And.intro @Ter_cons (And.intro @Oer.eq_1 (And.intro @Oer.eq_2 (And.intro @purge_p (And.intro @purge_undef (And.intro @purge_ptr (And.intro @purge_eptr (And.intro @purge_own (And.intro @purge_csl (And.intro @purge_tup (And.intro @purge_agg (And.intro @purge_cells (And.intro @purge_arr (And.intro @AV.clean.cleanL.eq_1 (And.intro @AV.clean.cleanL.eq_2 (And.intro @AV.clean.eq_1 (@AV.clean.eq_2))))))))))))))))))))))))
def amLd3 := PLift.up (And.intro @AV.clean.eq_3 (And.intro @AV.clean.eq_4 (And.intro @AV.clean.eq_5 (And.intro @AV.clean.eq_6 (And.intro @AV.clean.eq_7 (And.intro @AV.clean.eq_8 (And.intro @AV.clean.eq_9 (And.intro @AV.clean.eq_10 (And.intro @AV.clean.eq_11 (And.intro @EL_nil (And.intro @leT_nil (And.intro @leT_cons (And.intro @leO_nil (And.intro @leO_cons (And.intro @nm.eq_1 (And.intro @nm.eq_2 (And.intro @nm.eq_3 (And.intro @nm.eq_4 (And.intro @nm.eq_5 (And.intro @nm.eq_6 (And.intro @nm.eq_7 (And.intro @nm.eq_8 (And.intro @nm.eq_9 (@nm.eq_10))))))))))))))))))))))))
def amLd4 := PLift.up (And.intro @nm.eq_11 (And.intro @nmL.eq_1 (And.intro @nmL.eq_2 (And.intro @nmT.eq_1 (And.intro @nmT.eq_2 (And.intro @nmO.eq_1 (And.intro @nmO.eq_2 (And.intro @nmO.eq_3 (And.intro @nmO.eq_4 (And.intro @nmOs.eq_1 (And.intro @nmOs.eq_2 (And.intro @keys.eq_1 (And.intro @keys.eq_2 (And.intro @List.contains_cons.{0} (And.intro @List.contains_nil.{0} (And.intro @Bool.or_false (And.intro @Bool.or_true (And.intro @beq_self_eq_true.{0} (And.intro @resVars_1 (And.intro @resVar_tmp (And.intro @viewA_p (And.intro @EO_call (And.intro @viewAs_nil (@viewAs_cons))))))))))))))))))))))))
def amLd5 := PLift.up (And.intro @viewL_nil (And.intro @viewL_cons (And.intro @oc2_some (And.intro @viewA_agg (And.intro @viewA_own (And.intro @viewC_p (And.intro @viewC_own (And.intro @el_own' (And.intro @elO_arr (And.intro @Int.toNat_natCast (And.intro @Int.natCast_nonneg (And.intro @List.length_map.{0, 0} (And.intro @Int.natCast_add (And.intro @Int.natCast_succ (And.intro @Int.natCast_one (And.intro @Int.natCast_zero (And.intro @isl_getD (And.intro @ite_no (And.intro @List.length_take_of_le.{0} (And.intro @EO_build (And.intro @fBuild_struct (And.intro @fBuild_arr (And.intro @fillParts_nil (@fillParts_cons))))))))))))))))))))))))
def amLd6 := PLift.up (And.intro @fPart_some (And.intro @gBS_some (And.intro @fBS_sl (And.intro @EO_buildSlice (And.intro @partElems_nil (And.intro @partElems_cons (And.intro @oPE_some (And.intro @gCell_cells (And.intro @fCell_ptr (And.intro @resVar_cell (And.intro @resVars_2 (And.intro @oc2R_some (And.intro @list_app_nil (And.intro @List.nil_append.{0} (And.intro @Bool.true_eq_false (And.intro @List.take_length.{0} (And.intro @true_or (And.intro @or_true (And.intro @Int.tdiv_eq_ediv_of_nonneg (And.intro @Int.tmod_eq_emod_of_nonneg (And.intro @fAlloc_mk (And.intro @one_int (And.intro @one_bool (@one_slice))))))))))))))))))))))))
def amLd7 := PLift.up (And.intro @one_ptr (And.intro @one_map (And.intro @pvals_nil (And.intro @pvals_cons (And.intro @putCells_nil (And.intro @putCells_cons (And.intro @pvs_nil (And.intro @pvs_cons (And.intro @oc2P_some (And.intro @foldInts_cons (And.intro @foldGo_nil (And.intro @foldGo_cons (And.intro @map_p (And.intro @ite_yes (And.intro @Int.cast_ofNat_Int (And.intro @Int.add_zero (And.intro @ELg (And.intro @EK_mk (And.intro @EL_if (And.intro @EG_tup (And.intro @dstOk.eq_1 (And.intro @dstOk.eq_2 (And.intro @ev_tmp (@ev_int))))))))))))))))))))))))
def amLd8 := PLift.up (And.intro @ev_bool (And.intro @ev_slice (And.intro @ev_func (And.intro @thenQ_normal (And.intro @thenQ_ret (And.intro @blockQ_ret (And.intro @blockQ_normal (And.intro @Ret_ret (And.intro @dstOf.eq_1 (And.intro @Option.elim_some.{0, 1} (And.intro @Option.elim_some.{1, 0} (And.intro @Option.bind_some.{0, 0} (And.intro @Option.map_some.{0, 0} (And.intro @Option.isNone_none.{0} (And.intro @Option.isNone_some.{0} (And.intro @Option.isSome_some.{0} (And.intro @Option.getD_some.{0} (And.intro @Option.getD_none.{0} (And.intro @List.getElem?_cons_succ.{0} (And.intro @List.getElem?_cons_zero.{0} (And.intro @if_true.{1} (And.intro @if_false.{1} (And.intro @Bool.false_eq_true (@decide_true))))))))))))))))))))))))
def amLd9 := PLift.up (And.intro @decide_false (And.intro @decide_eq_true_eq (And.intro @true_and (And.intro @and_true (And.intro @and_self (And.intro @and_false (And.intro @false_and (And.intro @Bool.true_and (And.intro @Bool.and_true (And.intro @Bool.and_self (And.intro @Bool.and_false (And.intro @Bool.false_and (And.intro @Nat.add_zero (And.intro @Nat.zero_add (And.intro @Nat.mul_one (And.intro @Nat.zero_mul (And.intro @Bool.not_true (And.intro @Bool.not_false (And.intro @not_true_eq_false (And.intro @not_false_eq_true (And.intro @List.drop_zero.{0} (And.intro @List.drop_succ_cons.{0} (And.intro @List.take_succ_cons.{0} (@List.take_zero.{0}))))))))))))))))))))))))
def amLd10 := PLift.up (And.intro @List.length_cons.{0} (And.intro @List.length_nil.{0} (And.intro @List.map_cons.{0, 0} (And.intro @List.map_nil.{0, 0} (And.intro @List.set_cons_zero.{0} (And.intro @List.set_cons_succ.{0} (And.intro @List.getD_cons_zero.{0} (And.intro @List.getD_cons_succ.{0} (And.intro @List.all_cons.{0} (And.intro @List.all_nil.{0} (And.intro @wrap64 (And.intro @skipped.eq_1 (And.intro @Nat.zero_le (And.intro @Nat.lt_add_one (And.intro @Nat.le_refl (And.intro @Nat.lt_irrefl (And.intro @Nat.not_lt_zero (And.intro @Option.some.injEq.{0} (And.intro @agg_int (And.intro @agg_bool (And.intro @agg_str (And.intro @agg_sl (And.intro @agg_mp (@agg_other))))))))))))))))))))))))
def amLd11 := PLift.up (And.intro @agg_struct (And.intro @agg_arr (And.intro @tc_one (And.intro @tc_agg (And.intro @EOp_pure (And.intro @EOp_none (And.intro @EOp_new (And.intro @EOp_upd (And.intro @EOp_app (And.intro @EO_move' (And.intro @EO_assign (And.intro @fPick_t (And.intro @fPick_f (And.intro @fPick_b (And.intro @EO_pick (And.intro @EO_alloc (And.intro @cs_agg (And.intro @cs_p (And.intro @cs_ptr (And.intro @cs_own (And.intro @cs_csl (And.intro @cs_fn (And.intro @cs_mp (@EO_box))))))))))))))))))))))))
def amLd12 := PLift.up (And.intro @fLoad_ptr (And.intro @fLoad_eptr (And.intro @fLoad_ro (And.intro @fLoadP_cells (And.intro @fLoadE_arr (And.intro @EO_load (And.intro @fStore_ptr (And.intro @fStore_eptr (And.intro @fStoreP_cells (And.intro @fStoreE_arr (And.intro @EO_store (And.intro @tkStruct_eq (And.intro @fFA_ptr (And.intro @fFA_eptr (And.intro @fFA_ro (And.intro @EO_fieldAddr (And.intro @aggOf_agg (And.intro @fField_some (And.intro @fField2_some (And.intro @EO_field (And.intro @fIA_sl (And.intro @fIA_own (And.intro @fIAo_arr (@fIA_csl))))))))))))))))))))))))
def amLd13 := PLift.up (And.intro @fIA_arr (And.intro @fIA_roarr (And.intro @EO_indexAddr (And.intro @EO_binOp (And.intro @fBin_int (And.intro @fBin_sub (And.intro @fBin_mul (And.intro @fBin_quo (And.intro @fBin_rem (And.intro @fBin_eql (And.intro @fBin_neq (And.intro @fBin_lss (And.intro @fBin_leq (And.intro @fBin_gtr (And.intro @fBin_geq (And.intro @fBin_shl (And.intro @fBin_shr (And.intro @fBin_beq (And.intro @fBin_bne (And.intro @fBin_agg (And.intro @intsOf_nil (And.intro @intsOf_cons (And.intro @aggEq_eql (@aggEq_neq))))))))))))))))))))))))
def amLd14 := PLift.up (And.intro @fUn_not (And.intro @fUn_neg (And.intro @EO_unOp (And.intro @fConv_int (And.intro @EO_convert (And.intro @fNil_ptr (And.intro @fNil_eptr (And.intro @fNil_ro (And.intro @EO_nilCheck (And.intro @fExt_tup (And.intro @EO_extract (And.intro @EO_makeFunc (And.intro @fLen_own (And.intro @fLen_csl (And.intro @fLen_sl (And.intro @fLen_nil (And.intro @fLen_arr (And.intro @EO_len (And.intro @fApp_nil (And.intro @fApp_own (And.intro @fAppO_arr (And.intro @slElem_sl (And.intro @fAppT_some (@EO_append))))))))))))))))))))))))
def amLd15 := PLift.up (And.intro @el_p (And.intro @list_sl (And.intro @list_nil (And.intro @EO_min (And.intro @EO_max (And.intro @EG_tt (And.intro @EG_ff (And.intro @EG_tf (@EG_ft)))))))))
def amLd := PLift.up (And.intro amLd0.down (And.intro amLd1.down (And.intro amLd2.down (And.intro amLd3.down (And.intro amLd4.down (And.intro amLd5.down (And.intro amLd6.down (And.intro amLd7.down (And.intro amLd8.down (And.intro amLd9.down (And.intro amLd10.down (And.intro amLd11.down (And.intro amLd12.down (And.intro amLd13.down (And.intro amLd14.down (amLd15.down))))))))))))))))
def amTd0 := PLift.up (And.intro @ty1 (And.intro @ty2 (And.intro @ty3 (And.intro @ty4 (And.intro @ty5 (And.intro @ty6 (And.intro @ty7 (And.intro @ty8 (And.intro @ty12 (And.intro @ty15 (And.intro @ty16 (And.intro @ty17 (And.intro @ty18 (And.intro @ty19 (And.intro @ty21 (And.intro @ty22 (And.intro @ty23 (And.intro @ty24 (And.intro @ty25 (And.intro @ty26 (And.intro @ty27 (And.intro @ty28 (And.intro @ty29 (@ty31))))))))))))))))))))))))
def amTd1 := PLift.up (And.intro @ty32 (And.intro @ty33 (And.intro @ty34 (And.intro @ty35 (And.intro @ty36 (And.intro @ty37 (And.intro @ty38 (And.intro @ty39 (And.intro @ty40 (And.intro @ty42 (And.intro @ty43 (And.intro @ty44 (And.intro @ty45 (And.intro @ty47 (And.intro @ty49 (And.intro @ty50 (And.intro @ty51 (And.intro @ty52 (And.intro @ty53 (And.intro @ty54 (And.intro @ty55 (And.intro @ty56 (And.intro @ty57 (@ty58))))))))))))))))))))))))
def amTd2 := PLift.up (And.intro @ty59 (And.intro @ty60 (And.intro @ty61 (And.intro @ty62 (And.intro @ty63 (And.intro @ty64 (And.intro @ty65 (And.intro @ty66 (And.intro @ty67 (And.intro @ty68 (And.intro @ty69 (And.intro @ty70 (And.intro @ty72 (And.intro @ty73 (And.intro @ty74 (And.intro @ty75 (And.intro @ty76 (And.intro @ty77 (And.intro @ty78 (And.intro @ty79 (And.intro @ty80 (And.intro @ty81 (And.intro @ty82 (@ty83))))))))))))))))))))))))
def amTd3 := PLift.up (And.intro @ty84 (And.intro @ty85 (And.intro @ty86 (And.intro @ty87 (And.intro @ty88 (And.intro @ty89 (And.intro @ty90 (And.intro @ty91 (And.intro @ty92 (And.intro @ty93 (And.intro @ty94 (And.intro @ty95 (And.intro @ty97 (And.intro @ty98 (And.intro @ty99 (And.intro @ty100 (And.intro @ty101 (And.intro @ty102 (And.intro @ty103 (And.intro @ty104 (And.intro @ty105 (And.intro @ty106 (And.intro @ty107 (@ty108))))))))))))))))))))))))
def amTd4 := PLift.up (And.intro @ty109 (And.intro @ty110 (And.intro @ty111 (And.intro @ty112 (And.intro @ty113 (And.intro @ty114 (And.intro @ty115 (And.intro @ty116 (And.intro @ty117 (And.intro @ty118 (And.intro @ty119 (And.intro @ty120 (And.intro @ty121 (And.intro @ty122 (And.intro @ty123 (And.intro @ty124 (And.intro @ty125 (And.intro @ty126 (And.intro @ty127 (And.intro @ty128 (And.intro @ty129 (And.intro @ty130 (And.intro @ty131 (@ty132))))))))))))))))))))))))
def amTd5 := PLift.up (And.intro @ty133 (And.intro @ty134 (And.intro @ty135 (And.intro @ty136 (And.intro @ty137 (And.intro @ty138 (And.intro @ty139 (And.intro @ty140 (And.intro @ty141 (And.intro @ty143 (And.intro @ty144 (And.intro @ty147 (And.intro @ty148 (And.intro @ty149 (And.intro @ty150 (And.intro @ty151 (And.intro @ty152 (And.intro @ty153 (And.intro @ty154 (And.intro @ty155 (And.intro @ty156 (And.intro @ty157 (And.intro @ty158 (@ty159))))))))))))))))))))))))
def amTd := PLift.up (And.intro amTd0.down (And.intro amTd1.down (And.intro amTd2.down (And.intro amTd3.down (And.intro amTd4.down (amTd5.down))))))
theorem amL : type_of% amLd.down := amLd.down
theorem amT : type_of% amTd.down := amTd.down
end AM.Try
end
/- Go's slices.IndexFunc, slices.ContainsFunc and the program's all, at four types: whatever function tests. -/
section
namespace AM.Try
open Go AM AM.Duty
open Nat renaming reduceLT → sA, reduceAdd → sB, reduceMul → sC, reduceSub → sD, reduceLeDiff → sE, reduceEqDiff → sF, reduceBEq → sG
open Int renaming reduceAdd → sH, reduceSub → sI, reduceMul → sJ, reduceLT → sK, reduceLE → sL, reduceNeg → sM, reduceToNat → sN, reduceEq → sO
set_option maxHeartbeats 4000000
def scan {σ α : Type} (step : σ → α → σ × Bool) : σ → List α → Nat → σ × Int
  | s, [], _ => (s, -1)
  | s, x :: l, k => if (step s x).2 = true then ((step s x).1, k) else scan step (step s x).1 l (k + 1)
theorem drop_get {α : Type} {l : List α} {k : Nat} (d : α) (h : k < l.length) : l.drop k = l.getD k d :: l.drop (k + 1) := by
  rw [List.drop_eq_getElem_cons h]; simp [List.getD, h]
theorem scan_step {σ α : Type} {step : σ → α → σ × Bool} {l : List α} {k : Nat} (d : α) {s : σ} (h : k < l.length) : scan step s (l.drop k) k = if (step s (l.getD k d)).2 = true then ((step s (l.getD k d)).1, (k : Int)) else scan step (step s (l.getD k d)).1 (l.drop (k + 1)) (k + 1) := by
  rw [drop_get d h]; rfl
theorem scan_next {σ α : Type} {step : σ → α → σ × Bool} {l : List α} {k : Nat} (d : α) {s : σ} {R : σ × Int} (h : k < l.length) (hb : (step s (l.getD k d)).2 = false) (hr : scan step s (l.drop k) k = R) : scan step (step s (l.getD k d)).1 (l.drop (k + 1)) (k + 1) = R := by
  rw [← hr, scan_step d h, if_neg (by rw [hb]; simp)]
theorem scan_found {σ α : Type} {step : σ → α → σ × Bool} {l : List α} {k : Nat} (d : α) {s : σ} {R : σ × Int} (h : k < l.length) (hb : (step s (l.getD k d)).2 = true) (hr : scan step s (l.drop k) k = R) : R = ((step s (l.getD k d)).1, (k : Int)) := by
  rw [← hr, scan_step d h, if_pos hb]
theorem scan_none {σ α : Type} {step : σ → α → σ × Bool} {l : List α} {k : Nat} {s : σ} {R : σ × Int} (h : l.length ≤ k) (hr : scan step s (l.drop k) k = R) : R = (s, -1) := by
  rw [← hr, List.drop_of_length_le h]; rfl
def allS {σ α : Type} (step : σ → α → σ × Bool) : σ → List α → σ × Bool
  | s, [] => (s, true)
  | s, x :: l => if (step s x).2 = true then allS step (step s x).1 l else ((step s x).1, false)
theorem scan_all {σ α : Type} {step : σ → α → σ × Bool} : ∀ (l : List α) (s : σ) (k : Nat), (scan (fun s x => ((step s x).1, !(step s x).2)) s l k).1 = (allS step s l).1 ∧ (!decide (0 ≤ (scan (fun s x => ((step s x).1, !(step s x).2)) s l k).2)) = (allS step s l).2
  | [], s, k => ⟨rfl, rfl⟩
  | x :: l, s, k => by
    simp only [scan, allS]
    cases h : (step s x).2 with
    | false => simp
    | true => simpa using scan_all l (step s x).1 (k + 1)
theorem getD_mem {α : Type} {l : List α} {k : Nat} (d : α) (h : k < l.length) : l.getD k d ∈ l := by
  rw [← List.getElem_eq_getD (h := h)]; exact List.getElem_mem _
structure Tests (fv : AV) (F : Nat → Prop) {σ α : Type} (arg : α → AV) (l : List α) (I : σ → (Nat → Option AO) → Prop) (step : σ → α → σ × Bool) : Prop where
  live : ∀ s os, I s os → fv.lives os
  stable : ∀ s os os', I s os → (∀ n, F n → os' n = os n) → I s os'
  foot : ∀ s os n, I s os → F n → ∃ o, os n = some o ∧ ∀ m, o.clean m = false → F m
  call : ∀ s x os bd, x ∈ l → I s os → (Hp os).closed → VCall Go.Proofs.Try.prog bd fv [arg x] os fun res os' => res = bl (step s x).2 ∧ I (step s x).1 os' ∧ ∀ n, ¬ F n → os' n = os n
def dropFrom (bd : Nat) (os : Nat → Option AO) : Nat → Option AO := fun n => if n < bd then os n else none
theorem dropFrom_lt {bd n : Nat} {os : Nat → Option AO} (h : n < bd) : dropFrom bd os n = os n := if_pos h
theorem dropFrom_ge {bd n : Nat} {os : Nat → Option AO} (h : bd ≤ n) : dropFrom bd os n = none := if_neg (by omega)
theorem dropFrom_sub (bd : Nat) (os : Nat → Option AO) : Sub (dropFrom bd os) os := fun n => by
  by_cases h : n < bd
  · exact .inr (dropFrom_lt h)
  · exact .inl (dropFrom_ge (by omega))
theorem lt_of_live {bd n : Nat} {os : Nat → Option AO} (hf : ∀ n, bd ≤ n → os n = none) {o : AO} (h : os n = some o) : n < bd := by
  cases Nat.lt_or_ge n bd with
  | inl h => exact h
  | inr h' => rw [hf n h'] at h; cases h
theorem Tests.drop {fv : AV} {F : Nat → Prop} {σ α : Type} {arg : α → AV} {l : List α} {I : σ → (Nat → Option AO) → Prop} {step : σ → α → σ × Bool} (hT : Tests fv F arg l I step) {os os2 : Nat → Option AO} {bd : Nat} (hcl : (Hp os).closed) (hfree : ∀ n, bd ≤ n → os n = none) {s s' : σ} (hs : I s os) (hI : I s' os2) (hfr : ∀ n, n < bd → ¬ F n → os2 n = os n) :
    (Hp (dropFrom bd os2)).closed ∧ I s' (dropFrom bd os2) ∧ ∀ n, ¬ F n → dropFrom bd os2 n = os n := by
  have hF : ∀ n, F n → n < bd := fun n hn => by obtain ⟨o, h, _⟩ := hT.foot s os n hs hn; exact lt_of_live hfree h
  have hfr2 : ∀ n, ¬ F n → dropFrom bd os2 n = os n := fun n hn => by
    by_cases h : n < bd
    · rw [dropFrom_lt h]; exact hfr n h hn
    · rw [dropFrom_ge (by omega), hfree n (by omega)]
  refine ⟨⟨fun _ => AV.lives_undef _, fun n o hn => ?_⟩, hT.stable s' os2 _ hI (fun n hn => dropFrom_lt (hF n hn)), hfr2⟩
  have hn : dropFrom bd os2 n = some o := hn
  by_cases hFn : F n
  · obtain ⟨o', h1, h2⟩ := hT.foot s' os2 n hI hFn
    rw [dropFrom_lt (hF n hFn), h1] at hn
    cases hn
    intro m hm
    obtain ⟨o'', h3, _⟩ := hT.foot s' os2 m hI (h2 m hm)
    show (dropFrom bd os2 m).isSome = true
    rw [dropFrom_lt (hF m (h2 m hm)), h3]; rfl
  · rw [hfr2 n hFn] at hn
    intro m hm
    have h3 := hcl.2 n o hn m hm
    show (dropFrom bd os2 m).isSome = true
    by_cases hFm : F m
    · obtain ⟨o', h1, _⟩ := hT.foot s' os2 m hI hFm
      rw [dropFrom_lt (hF m hFm), h1]; rfl
    · rw [hfr2 m hFm]; exact h3
abbrev encI (n : Int) : List PV := [iv n]
abbrev encT (t : List Int) : List PV := [.sl (t.map fun n => [iv n])]
theorem encT_getD {l : List (List Int)} {k : Nat} (h : k < l.length) : (l.map encT).getD k [] = encT (l.getD k []) := getD_map _ _ _ h
theorem encI_getD {l : List Int} {k : Nat} (h : k < l.length) : (l.map encI).getD k [] = encI (l.getD k 0) := getD_map _ _ _ h
theorem c115 {σ : Type} {fv : AV} {F : Nat → Prop} {l : List Int} {I : σ → (Nat → Option AO) → Prop} {step : σ → Int → σ × Bool} (hl : l.length < 1000000) (hT : Tests fv F i64 l I step) {s : σ} {os : Nat → Option AO} {bd : Nat} (hI : I s os) :
    VCall Go.Proofs.Try.prog bd (.fn (.func 115) [] []) [.p (.sl (l.map encI)), fv] os fun res os' => res = i64 (scan step s l 0).2 ∧ I (scan step s l 0).1 os' ∧ ∀ n, ¬ F n → os' n = os n := by
  refine vcall_mk (v := []) (q := []) (N := 19) (rs := [.tmp 4]) Go.Proofs.Try.func115 rfl (by kernel_rfl) rfl rfl (fun hcl hfree => ?_)
  have hfreeI : ∀ (s1 : σ) os1, I s1 os1 → (∀ n, ¬ F n → os1 n = os n) → ∀ n, bd ≤ n → os1 n = none := fun s1 os1 h1 h2 n hn => by
    by_cases hFn : F n
    · obtain ⟨o, h3, _⟩ := hT.foot s os n hI hFn
      have := lt_of_live hfree h3; omega
    · rw [h2 n hFn]; exact hfree n hn
  refine awp_seq_k fun K1 hK1 => ?_
  refine awp_ops ?_
  simp (disch := omega) only [amL, sA, sB]
  refine hK1 _ ?_
  refine awp_seq_k fun K2 hK2 => ?_
  refine awp_seq_k fun K3 hK3 => ?_
  refine awp_ops ?_
  simp (disch := omega) only [amL, amT, sA, ↓reduceIte, reduceCtorEq]
  refine hK3 _ ?_
  refine awp_block ?_
  skip
  refine awp_loop_k (α := Nat × σ × (Nat → Option AO)) (fun x => ⟨T [(0, .p (.sl (l.map encI))), (1, fv), (8, i64 x.1), (7, i64 l.length)], x.2.2⟩) (fun x => l.length - x.1) (fun x => x.1 ≤ l.length ∧ I x.2.1 x.2.2 ∧ (Hp x.2.2).closed ∧ (∀ n, ¬ F n → x.2.2 n = os n) ∧ scan step x.2.1 (l.drop x.1) x.1 = scan step s l 0) (0, s, os) ?_ ?_ (fun x hx4 K4 hK4 => ?_)
  · exact ⟨by simp, hI, hcl, fun _ _ => rfl, by simp⟩
  · refine le_os ?_ ?_ ?_ ?_ <;> (try simp (disch := omega) only [amL, sF, ↓reduceIte, reduceCtorEq]); all_goals first | exact hcl | exact Sub.refl _ | exact hT.live _ _ hI
  obtain ⟨k, s1, os1⟩ := x; dsimp only at hx4 ⊢; obtain ⟨hk, hI1, hcl1, hfr1, hsc⟩ := hx4
  refine awp_seq_k fun K5 hK5 => ?_
  refine awp_ops ?_
  simp (disch := omega) only [amL, amT, sA, sF, ↓reduceIte, reduceCtorEq]
  refine hK5 _ ?_
  refine awp_seq_k fun K6 hK6 => ?_
  refine awp_cond rfl (fun h => ?_) (fun h => ?_)
  ·first
   | exact Bool.noConfusion h
   |skip
    try simp only [decide_eq_true_eq] at h
    refine awp_skip ?_
    refine hK6 _ ?_
    refine awp_seq_k fun K7 hK7 => ?_
    refine awp_block ?_
    refine awp_seq_k fun K8 hK8 => ?_
    refine awp_ops ?_
    simp (disch := omega) only [amL, sA, sF, ↓reduceIte, reduceCtorEq]
    refine hK8 _ ?_
    refine awp_seq_k fun K9 hK9 => ?_
    refine awp_ops ?_
    simp (disch := omega) only [encI_getD, amL, amT, sA, sF, ↓reduceIte, reduceCtorEq]
    refine EV_intro2 [(0, .p (.sl (l.map encI))), (1, fv), (5, i64 k), (8, i64 k), (7, i64 l.length)] (by decide) (hT.call s1 (l.getD k 0) os1 bd (getD_mem 0 (by omega)) hI1 hcl1) (hfreeI _ _ hI1 hfr1) (Nat.le_refl _) (fun res os2 hR hcl2 hlv2 => ?_)
    obtain ⟨rfl, hI2, hfr2⟩ := hR
    have hv2 := hT.live _ _ hI2
    simp (disch := omega) only [amL, sF, ↓reduceIte, reduceCtorEq]
    refine ⟨hv2, ?_⟩
    refine hK9 _ ?_
    refine awp_cond rfl (fun h => ?_) (fun h => ?_)
    ·first
     | exact Bool.noConfusion h
     |skip
      try simp only [Bool.not_eq_true', decide_eq_true_eq, decide_eq_false_iff_not, Bool.and_eq_true, Bool.not_eq_false', Bool.not_not, decide_not, Bool.not_true, Bool.not_false] at h
      refine awp_seq_k fun K10 hK10 => ?_
      refine awp_ops ?_
      simp (disch := omega) only [amL, sA, sF, ↓reduceIte, reduceCtorEq]
      refine hK10 _ ?_
      refine awp_ret ?_
      try simp (disch := omega) only [amL]
      first | (refine retV_mk (res := i64 _) os1 (by simp (disch := omega) only [amL, ↓reduceIte]; try rfl) (Sub.refl _) hcl1 (AV.lives_p _ _) ?_ ; rw [scan_none (by omega) hsc]; exact ⟨rfl, hI1, hfr1⟩) | (refine retV_mk (res := i64 _) os2 (by simp (disch := omega) only [amL, ↓reduceIte]; try rfl) (Sub.refl _) hcl2 (AV.lives_p _ _) ?_ ; rw [scan_found 0 (by omega) h hsc]; exact ⟨rfl, hI2, fun n hn => (hfr2 n hn).trans (hfr1 n hn)⟩)
    ·first
     | exact Bool.noConfusion h
     |skip
      try simp only [Bool.not_eq_true', decide_eq_true_eq, decide_eq_false_iff_not, Bool.and_eq_true, Bool.not_eq_false', Bool.not_not, decide_not, Bool.not_true, Bool.not_false] at h
      refine awp_skip ?_
      refine hK7 _ ?_
      refine awp_ops ?_
      simp (disch := omega) only [amL, amT, sA, sF, ↓reduceIte, reduceCtorEq]
      refine hK4 (k+1, (step s1 (l.getD k 0)).1, os2) _ ?_ ?_ (le_os ?_ ?_ ?_ ?_)
      all_goals (try simp (disch := omega) only [amL, sF, ↓reduceIte, reduceCtorEq])
      all_goals first | exact ⟨by omega, hI2, hcl2, fun n hn => (hfr2 n hn).trans (hfr1 n hn), scan_next 0 (by omega) h hsc⟩ | omega | exact hcl2 | exact Sub.refl _ | exact hv2
  ·first
   | exact Bool.noConfusion h
   |skip
    try simp only [decide_eq_false_iff_not] at h
    refine awp_exit ?_
    refine hK2 _ ?_
    refine awp_seq_k fun K11 hK11 => ?_
    refine awp_ops ?_
    simp (disch := omega) only [amL, sA, sM]
    refine hK11 _ ?_
    refine awp_ret ?_
    try simp (disch := omega) only [amL, sM]
    first | (refine retV_mk (res := i64 _) os1 (by simp (disch := omega) only [amL, sM, ↓reduceIte]; try rfl) (Sub.refl _) hcl1 (AV.lives_p _ _) ?_ ; rw [scan_none (by omega) hsc]; exact ⟨rfl, hI1, hfr1⟩) | (refine retV_mk (res := i64 _) os2 (by simp (disch := omega) only [encI_getD, amL, amT, sA, sB, sC, sD, sE, sF, sG, sH, sI, sJ, sK, sL, sM, sN, sO, ↓reduceIte, reduceCtorEq]; try rfl) (Sub.refl _) hcl2 (AV.lives_p _ _) ?_ ; rw [scan_found 0 (by omega) h hsc]; exact ⟨rfl, hI2, fun n hn => (hfr2 n hn).trans (hfr1 n hn)⟩)
theorem c109 {σ : Type} {fv : AV} {F : Nat → Prop} {l : List Int} {I : σ → (Nat → Option AO) → Prop} {step : σ → Int → σ × Bool} (hl : l.length < 1000000) (hT : Tests fv F i64 l I step) {s : σ} {os : Nat → Option AO} {bd : Nat} (hI : I s os) :
    VCall Go.Proofs.Try.prog bd (.fn (.func 109) [] []) [.p (.sl (l.map encI)), fv] os fun res os' => res = bl (decide (0 ≤ (scan step s l 0).2)) ∧ I (scan step s l 0).1 os' ∧ ∀ n, ¬ F n → os' n = os n := by
  refine vcall_mk (v := [115]) (q := []) (N := 9) (rs := [.tmp 4]) Go.Proofs.Try.func109 rfl (by kernel_rfl) rfl rfl (fun hcl hfree => ?_)
  refine awp_seq_k fun K1 hK1 => ?_
  refine awp_ops ?_
  simp (disch := omega) only [amL, sA, sB]
  refine hK1 _ ?_
  refine awp_seq_k fun K2 hK2 => ?_
  refine awp_ops ?_
  simp (disch := omega) only [amL, sA, sF, ↓reduceIte, reduceCtorEq]
  refine EV_intro2 [] (by decide) (c115 hl hT hI) hfree (Nat.le_refl _) (fun res os2 hR hcl2 hlv2 => ?_)
  obtain ⟨rfl, hI2, hfr2⟩ := hR
  simp (disch := omega) only [amL, amT, sA, ↓reduceIte]
  refine hK2 _ ?_
  refine awp_ret ?_
  try simp (disch := omega) only [amL]
  refine retV_mk (res := bl _) os2 (by simp (disch := omega) only [amL, ↓reduceIte]; try rfl) (Sub.refl _) hcl2 (AV.lives_p _ _) ⟨rfl, hI2, hfr2⟩
theorem u110 {σ : Type} {fv : AV} {F : Nat → Prop} {l : List Int} {I : σ → (Nat → Option AO) → Prop} {step : σ → Int → σ × Bool} (hT : Tests fv F i64 l I step) {nb : Nat} (hnb : ¬ F nb) {s : σ} {x : Int} {os : Nat → Option AO} {bd : Nat} (hx : x ∈ l) (hI : I s os) (hnb1 : os nb = some (.cells [fv])) :
    VCall Go.Proofs.Try.prog bd (.fn (.func 110) [] [.ptr nb 0]) [i64 x] os fun res os' => res = bl (!(step s x).2) ∧ (I (step s x).1 os' ∧ os' nb = some (.cells [fv])) ∧ ∀ n, ¬ (F n ∨ n = nb) → os' n = os n := by
  refine vcall_mk (v := []) (q := []) (N := 8) (rs := [.tmp 3]) Go.Proofs.Try.func110 rfl (by kernel_rfl) rfl rfl (fun hcl hfree => ?_)
  have hlt := lt_of_live hfree hnb1
  have hfr0 : ∀ k, os (bd + k) = none := fun k => hfree _ (by omega)
  have hlv := hT.live _ _ hI
  have hcl0 := hcl
  have hI0 := hI
  have hfr8 : ∀ n, bd + 8 ≤ n → os n = none := fun n hn => hfree n (by omega)
  refine awp_seq_k fun K1 hK1 => ?_
  refine awp_ops ?_
  simp (disch := omega) only [amL, sA, sB]
  refine hK1 _ ?_
  refine awp_seq_k fun K2 hK2 => ?_
  refine awp_ops ?_
  simp (disch := omega) only [hnb1, amL, amT, sA, sF, ↓reduceIte, reduceCtorEq]
  have hvc := hT.call s x _ (bd + 8) hx hI0 hcl0
  refine EV_intro2 [] (by decide) hvc hfr8 (Nat.le_add_right bd 8) (fun res os2 hR hcl2 hlv2 => ?_)
  obtain ⟨rfl, hI2, hfr2⟩ := hR
  simp (disch := omega) only [amL, sA, ↓reduceIte]
  refine hK2 _ ?_
  refine awp_ret ?_
  try simp (disch := omega) only [amL]
  obtain ⟨g1, g2, g3⟩ := hT.drop hcl hfree hI hI2 (fun n hn hF => by first | exact hfr2 n hF | (rw [hfr2 n hF, upd_ne (by omega)]))
  refine retV_mk (res := bl _) (dropFrom bd os2) (by simp (disch := omega) only [amL, ↓reduceIte]; try rfl) (dropFrom_sub _ _) g1 (AV.lives_p _ _) ⟨rfl, ⟨g2, ?_⟩, fun n hn => g3 n (fun h => hn (.inl h))⟩
  rw [g3 nb hnb]; exact hnb1
theorem t110 {σ : Type} {fv : AV} {F : Nat → Prop} {l : List Int} {I : σ → (Nat → Option AO) → Prop} {step : σ → Int → σ × Bool} (hT : Tests fv F i64 l I step) {nb : Nat} (hnb : ¬ F nb) (hfv : ∀ m, fv.clean m = false → F m) :
    Tests (.fn (.func 110) [] [.ptr nb 0]) (fun n => F n ∨ n = nb) i64 l (fun s os => I s os ∧ os nb = some (.cells [fv])) (fun s x => ((step s x).1, !(step s x).2)) := by
  refine ⟨fun s os hI => ?_, fun s os os' hI h => ⟨hT.stable s os os' hI.1 (fun n hn => h n (.inl hn)), (h nb (.inr rfl)).trans hI.2⟩, fun s os n hI hn => ?_, fun s x os bd hx hI _ => u110 hT hnb hx hI.1 hI.2⟩
  · rw [lives_fn_eq, livesL_nil, livesL_cons, livesL_nil, lives_ptr_eq, hI.2]; exact ⟨trivial, rfl, trivial⟩
  · rcases hn with hn | rfl
    · obtain ⟨o, h1, h2⟩ := hT.foot s os n hI.1 hn
      exact ⟨o, h1, fun m hm => .inl (h2 m hm)⟩
    · refine ⟨_, hI.2, fun m hm => .inl (hfv m ?_)⟩
      simpa [AO.clean, AV.clean.cleanL] using hm
theorem c93 {σ : Type} {ff : Fn} {fs cs : List AV} {F : Nat → Prop} {l : List Int} {I : σ → (Nat → Option AO) → Prop} {step : σ → Int → σ × Bool} (hl : l.length < 1000000) (hT : Tests (.fn ff fs cs) F i64 l I step) (hfv : ∀ m, (AV.fn ff fs cs).clean m = false → F m) {s : σ} {os : Nat → Option AO} {bd : Nat} (hI : I s os) :
    VCall Go.Proofs.Try.prog bd (.fn (.func 93) [] []) [.p (.sl (l.map encI)), .fn ff fs cs] os fun res os' => res = bl (allS step s l).2 ∧ I (allS step s l).1 os' ∧ ∀ n, ¬ F n → os' n = os n := by
  refine vcall_mk (v := [109]) (q := []) (N := 9) (rs := [.tmp 4]) Go.Proofs.Try.func93 rfl (by kernel_rfl) rfl rfl (fun hcl hfree => ?_)
  have hfr0 : ∀ k, os (bd + k) = none := fun k => hfree _ (by omega)
  have hF : ∀ n, F n → n < bd := fun n hn => by obtain ⟨o, h, _⟩ := hT.foot s os n hI hn; exact lt_of_live hfree h
  have hlv := hT.live _ _ hI
  have hcl0 : (Hp (upd os (bd + 3) (some (.cells [.fn ff fs cs])))).closed := closed_upd hcl (by
    rw [lives_cells_eq, livesL_cons, livesL_nil]
    exact ⟨AV.lives_mono (fun n hn => by by_cases e : n = bd + 3; · subst e; rw [upd_eq]; rfl
                                         · rw [upd_ne e]; exact hn) hlv, trivial⟩)
  have hI0 : I s (upd os (bd + 3) (some (.cells [.fn ff fs cs]))) := hT.stable s os _ hI (fun n hn => upd_ne (by have := hF n hn; omega))
  have ht := t110 hT (nb := bd + 3) (fun h => by have := hF _ h; omega) hfv
  obtain ⟨sa1, sa2⟩ := scan_all (step := step) l s 0
  refine awp_seq_k fun K1 hK1 => ?_
  refine awp_ops ?_
  simp (disch := omega) only [hfr0, amL, sA, sB, ↓reduceIte, reduceCtorEq]
  refine hK1 _ ?_
  refine awp_seq_k fun K2 hK2 => ?_
  refine awp_ops ?_
  simp (disch := omega) only [amL, sA, sF, ↓reduceIte, reduceCtorEq]
  refine EV_intro2 [] (by decide) (c109 (bd := bd + 9) hl ht ⟨hI0, upd_eq⟩) (fun n hn => by first | exact hfree n (by omega) | (rw [upd_ne (by omega)]; exact hfree n (by omega))) (Nat.le_add_right bd 9) (fun res os2 hR hcl2 hlv2 => ?_)
  obtain ⟨rfl, ⟨hI2, _⟩, hfr2⟩ := hR
  simp (disch := omega) only [amL, sA, ↓reduceIte]
  refine hK2 _ ?_
  refine awp_ret ?_
  try simp (disch := omega) only [amL]
  rw [sa1] at hI2
  obtain ⟨g1, g2, g3⟩ := hT.drop hcl hfree hI hI2 (fun n hn hF => by rw [hfr2 n (fun h => h.elim hF (fun e => by omega)), upd_ne (by omega)])
  refine retV_mk (res := bl _) (dropFrom bd os2) (by simp (disch := omega) only [amL, ↓reduceIte]; try rfl) (dropFrom_sub _ _) g1 (AV.lives_p _ _) ⟨by rw [sa2], g2, g3⟩
theorem c114 {σ : Type} {fv : AV} {F : Nat → Prop} {l : List Rate} {I : σ → (Nat → Option AO) → Prop} {step : σ → Rate → σ × Bool} (hl : l.length < 1000000) (hT : Tests fv F (fun x => .agg [i64 x.day, i64 x.pence]) l I step) {s : σ} {os : Nat → Option AO} {bd : Nat} (hI : I s os) :
    VCall Go.Proofs.Try.prog bd (.fn (.func 114) [] []) [.p (.sl (l.map encR)), fv] os fun res os' => res = i64 (scan step s l 0).2 ∧ I (scan step s l 0).1 os' ∧ ∀ n, ¬ F n → os' n = os n := by
  refine vcall_mk (v := []) (q := []) (N := 19) (rs := [.tmp 4]) Go.Proofs.Try.func114 rfl (by kernel_rfl) rfl rfl (fun hcl hfree => ?_)
  have hfreeI : ∀ (s1 : σ) os1, I s1 os1 → (∀ n, ¬ F n → os1 n = os n) → ∀ n, bd ≤ n → os1 n = none := fun s1 os1 h1 h2 n hn => by
    by_cases hFn : F n
    · obtain ⟨o, h3, _⟩ := hT.foot s os n hI hFn
      have := lt_of_live hfree h3; omega
    · rw [h2 n hFn]; exact hfree n hn
  refine awp_seq_k fun K1 hK1 => ?_
  refine awp_ops ?_
  simp (disch := omega) only [amL, sA, sB]
  refine hK1 _ ?_
  refine awp_seq_k fun K2 hK2 => ?_
  refine awp_seq_k fun K3 hK3 => ?_
  refine awp_ops ?_
  simp (disch := omega) only [amL, amT, sA, ↓reduceIte, reduceCtorEq]
  refine hK3 _ ?_
  refine awp_block ?_
  skip
  refine awp_loop_k (α := Nat × σ × (Nat → Option AO)) (fun x => ⟨T [(0, .p (.sl (l.map encR))), (1, fv), (8, i64 x.1), (7, i64 l.length)], x.2.2⟩) (fun x => l.length - x.1) (fun x => x.1 ≤ l.length ∧ I x.2.1 x.2.2 ∧ (Hp x.2.2).closed ∧ (∀ n, ¬ F n → x.2.2 n = os n) ∧ scan step x.2.1 (l.drop x.1) x.1 = scan step s l 0) (0, s, os) ?_ ?_ (fun x hx4 K4 hK4 => ?_)
  · exact ⟨by simp, hI, hcl, fun _ _ => rfl, by simp⟩
  · refine le_os ?_ ?_ ?_ ?_ <;> (try simp (disch := omega) only [amL, sF, ↓reduceIte, reduceCtorEq]); all_goals first | exact hcl | exact Sub.refl _ | exact hT.live _ _ hI
  obtain ⟨k, s1, os1⟩ := x; dsimp only at hx4 ⊢; obtain ⟨hk, hI1, hcl1, hfr1, hsc⟩ := hx4
  refine awp_seq_k fun K5 hK5 => ?_
  refine awp_ops ?_
  simp (disch := omega) only [amL, amT, sA, sF, ↓reduceIte, reduceCtorEq]
  refine hK5 _ ?_
  refine awp_seq_k fun K6 hK6 => ?_
  refine awp_cond rfl (fun h => ?_) (fun h => ?_)
  ·first
   | exact Bool.noConfusion h
   |skip
    try simp only [decide_eq_true_eq] at h
    refine awp_skip ?_
    refine hK6 _ ?_
    refine awp_seq_k fun K7 hK7 => ?_
    refine awp_block ?_
    refine awp_seq_k fun K8 hK8 => ?_
    refine awp_ops ?_
    simp (disch := omega) only [amL, sA, sF, ↓reduceIte, reduceCtorEq]
    refine hK8 _ ?_
    refine awp_seq_k fun K9 hK9 => ?_
    refine awp_ops ?_
    simp (disch := omega) only [encR_getD, amL, amT, sA, sB, sF, ↓reduceIte, reduceCtorEq]
    refine EV_intro2 [(0, .p (.sl (l.map encR))), (1, fv), (5, i64 k), (8, i64 k), (7, i64 l.length)] (by decide) (hT.call s1 (l.getD k default) os1 bd (getD_mem default (by omega)) hI1 hcl1) (hfreeI _ _ hI1 hfr1) (Nat.le_refl _) (fun res os2 hR hcl2 hlv2 => ?_)
    obtain ⟨rfl, hI2, hfr2⟩ := hR
    have hv2 := hT.live _ _ hI2
    simp (disch := omega) only [amL, sF, ↓reduceIte, reduceCtorEq]
    refine ⟨hv2, ?_⟩
    refine hK9 _ ?_
    refine awp_cond rfl (fun h => ?_) (fun h => ?_)
    ·first
     | exact Bool.noConfusion h
     |skip
      try simp only [Bool.not_eq_true', decide_eq_true_eq, decide_eq_false_iff_not, Bool.and_eq_true, Bool.not_eq_false', Bool.not_not, decide_not, Bool.not_true, Bool.not_false] at h
      refine awp_seq_k fun K10 hK10 => ?_
      refine awp_ops ?_
      simp (disch := omega) only [amL, sA, sF, ↓reduceIte, reduceCtorEq]
      refine hK10 _ ?_
      refine awp_ret ?_
      try simp (disch := omega) only [amL]
      first | (refine retV_mk (res := i64 _) os1 (by simp (disch := omega) only [amL, ↓reduceIte]; try rfl) (Sub.refl _) hcl1 (AV.lives_p _ _) ?_ ; rw [scan_none (by omega) hsc]; exact ⟨rfl, hI1, hfr1⟩) | (refine retV_mk (res := i64 _) os2 (by simp (disch := omega) only [amL, ↓reduceIte]; try rfl) (Sub.refl _) hcl2 (AV.lives_p _ _) ?_ ; rw [scan_found default (by omega) h hsc]; exact ⟨rfl, hI2, fun n hn => (hfr2 n hn).trans (hfr1 n hn)⟩)
    ·first
     | exact Bool.noConfusion h
     |skip
      try simp only [Bool.not_eq_true', decide_eq_true_eq, decide_eq_false_iff_not, Bool.and_eq_true, Bool.not_eq_false', Bool.not_not, decide_not, Bool.not_true, Bool.not_false] at h
      refine awp_skip ?_
      refine hK7 _ ?_
      refine awp_ops ?_
      simp (disch := omega) only [amL, amT, sA, sF, ↓reduceIte, reduceCtorEq]
      refine hK4 (k+1, (step s1 (l.getD k default)).1, os2) _ ?_ ?_ (le_os ?_ ?_ ?_ ?_)
      all_goals (try simp (disch := omega) only [amL, sF, ↓reduceIte, reduceCtorEq])
      all_goals first | exact ⟨by omega, hI2, hcl2, fun n hn => (hfr2 n hn).trans (hfr1 n hn), scan_next default (by omega) h hsc⟩ | omega | exact hcl2 | exact Sub.refl _ | exact hv2
  ·first
   | exact Bool.noConfusion h
   |skip
    try simp only [decide_eq_false_iff_not] at h
    refine awp_exit ?_
    refine hK2 _ ?_
    refine awp_seq_k fun K11 hK11 => ?_
    refine awp_ops ?_
    simp (disch := omega) only [amL, sA, sM]
    refine hK11 _ ?_
    refine awp_ret ?_
    try simp (disch := omega) only [amL, sM]
    first | (refine retV_mk (res := i64 _) os1 (by simp (disch := omega) only [amL, sM, ↓reduceIte]; try rfl) (Sub.refl _) hcl1 (AV.lives_p _ _) ?_ ; rw [scan_none (by omega) hsc]; exact ⟨rfl, hI1, hfr1⟩) | (refine retV_mk (res := i64 _) os2 (by simp (disch := omega) only [encR_getD, amL, amT, sA, sB, sC, sD, sE, sF, sG, sH, sI, sJ, sK, sL, sM, sN, sO, ↓reduceIte, reduceCtorEq]; try rfl) (Sub.refl _) hcl2 (AV.lives_p _ _) ?_ ; rw [scan_found default (by omega) h hsc]; exact ⟨rfl, hI2, fun n hn => (hfr2 n hn).trans (hfr1 n hn)⟩)
theorem c104 {σ : Type} {fv : AV} {F : Nat → Prop} {l : List Rate} {I : σ → (Nat → Option AO) → Prop} {step : σ → Rate → σ × Bool} (hl : l.length < 1000000) (hT : Tests fv F (fun x => .agg [i64 x.day, i64 x.pence]) l I step) {s : σ} {os : Nat → Option AO} {bd : Nat} (hI : I s os) :
    VCall Go.Proofs.Try.prog bd (.fn (.func 104) [] []) [.p (.sl (l.map encR)), fv] os fun res os' => res = bl (decide (0 ≤ (scan step s l 0).2)) ∧ I (scan step s l 0).1 os' ∧ ∀ n, ¬ F n → os' n = os n := by
  refine vcall_mk (v := [114]) (q := []) (N := 9) (rs := [.tmp 4]) Go.Proofs.Try.func104 rfl (by kernel_rfl) rfl rfl (fun hcl hfree => ?_)
  refine awp_seq_k fun K1 hK1 => ?_
  refine awp_ops ?_
  simp (disch := omega) only [amL, sA, sB]
  refine hK1 _ ?_
  refine awp_seq_k fun K2 hK2 => ?_
  refine awp_ops ?_
  simp (disch := omega) only [amL, sA, sF, ↓reduceIte, reduceCtorEq]
  refine EV_intro2 [] (by decide) (c114 hl hT hI) hfree (Nat.le_refl _) (fun res os2 hR hcl2 hlv2 => ?_)
  obtain ⟨rfl, hI2, hfr2⟩ := hR
  simp (disch := omega) only [amL, amT, sA, ↓reduceIte]
  refine hK2 _ ?_
  refine awp_ret ?_
  try simp (disch := omega) only [amL]
  refine retV_mk (res := bl _) os2 (by simp (disch := omega) only [amL, ↓reduceIte]; try rfl) (Sub.refl _) hcl2 (AV.lives_p _ _) ⟨rfl, hI2, hfr2⟩
theorem u105 {σ : Type} {fv : AV} {F : Nat → Prop} {l : List Rate} {I : σ → (Nat → Option AO) → Prop} {step : σ → Rate → σ × Bool} (hT : Tests fv F (fun x => .agg [i64 x.day, i64 x.pence]) l I step) {nb : Nat} (hnb : ¬ F nb) {s : σ} {x : Rate} {os : Nat → Option AO} {bd : Nat} (hx : x ∈ l) (hI : I s os) (hnb1 : os nb = some (.cells [fv])) :
    VCall Go.Proofs.Try.prog bd (.fn (.func 105) [] [.ptr nb 0]) [(fun x => .agg [i64 x.day, i64 x.pence]) x] os fun res os' => res = bl (!(step s x).2) ∧ (I (step s x).1 os' ∧ os' nb = some (.cells [fv])) ∧ ∀ n, ¬ (F n ∨ n = nb) → os' n = os n := by
  refine vcall_mk (v := []) (q := []) (N := 8) (rs := [.tmp 3]) Go.Proofs.Try.func105 rfl (by kernel_rfl) rfl rfl (fun hcl hfree => ?_)
  have hlt := lt_of_live hfree hnb1
  have hfr0 : ∀ k, os (bd + k) = none := fun k => hfree _ (by omega)
  have hlv := hT.live _ _ hI
  have hcl0 : (Hp (upd os (bd + 2) (some (.cells ([i64 x.day, i64 x.pence]))))).closed := closed_upd hcl (by rw [lives_cells_eq]; simp only [livesL_nil, livesL_cons, lives_p_eq, and_self])
  have hI0 : I s (upd os (bd + 2) (some (.cells ([i64 x.day, i64 x.pence])))) := hT.stable s os _ hI (fun n hn => upd_ne (by
    obtain ⟨o, h, _⟩ := hT.foot s os n hI hn
    have := lt_of_live hfree h; omega))
  have hfr8 : ∀ n, bd + 8 ≤ n → upd os (bd + 2) (some (.cells ([i64 x.day, i64 x.pence]))) n = none := fun n hn => by rw [upd_ne (by omega)]; exact hfree n (by omega)
  refine awp_seq_k fun K1 hK1 => ?_
  refine awp_ops ?_
  simp (disch := omega) only [hfr0, amL, sA, sB, ↓reduceIte]
  refine hK1 _ ?_
  refine awp_seq_k fun K2 hK2 => ?_
  refine awp_ops ?_
  simp (disch := omega) only [hnb1, upd_ne, amL, amT, sA, sB, sF, ↓reduceIte, reduceCtorEq]
  have hvc := hT.call s x _ (bd + 8) hx hI0 hcl0
  refine EV_intro2 [] (by decide) hvc hfr8 (Nat.le_add_right bd 8) (fun res os2 hR hcl2 hlv2 => ?_)
  obtain ⟨rfl, hI2, hfr2⟩ := hR
  simp (disch := omega) only [amL, sA, ↓reduceIte]
  refine hK2 _ ?_
  refine awp_ret ?_
  try simp (disch := omega) only [amL]
  obtain ⟨g1, g2, g3⟩ := hT.drop hcl hfree hI hI2 (fun n hn hF => by first | exact hfr2 n hF | (rw [hfr2 n hF, upd_ne (by omega)]))
  refine retV_mk (res := bl _) (dropFrom bd os2) (by simp (disch := omega) only [amL, ↓reduceIte]; try rfl) (dropFrom_sub _ _) g1 (AV.lives_p _ _) ⟨rfl, ⟨g2, ?_⟩, fun n hn => g3 n (fun h => hn (.inl h))⟩
  rw [g3 nb hnb]; exact hnb1
theorem t105 {σ : Type} {fv : AV} {F : Nat → Prop} {l : List Rate} {I : σ → (Nat → Option AO) → Prop} {step : σ → Rate → σ × Bool} (hT : Tests fv F (fun x => .agg [i64 x.day, i64 x.pence]) l I step) {nb : Nat} (hnb : ¬ F nb) (hfv : ∀ m, fv.clean m = false → F m) :
    Tests (.fn (.func 105) [] [.ptr nb 0]) (fun n => F n ∨ n = nb) (fun x => .agg [i64 x.day, i64 x.pence]) l (fun s os => I s os ∧ os nb = some (.cells [fv])) (fun s x => ((step s x).1, !(step s x).2)) := by
  refine ⟨fun s os hI => ?_, fun s os os' hI h => ⟨hT.stable s os os' hI.1 (fun n hn => h n (.inl hn)), (h nb (.inr rfl)).trans hI.2⟩, fun s os n hI hn => ?_, fun s x os bd hx hI _ => u105 hT hnb hx hI.1 hI.2⟩
  · rw [lives_fn_eq, livesL_nil, livesL_cons, livesL_nil, lives_ptr_eq, hI.2]; exact ⟨trivial, rfl, trivial⟩
  · rcases hn with hn | rfl
    · obtain ⟨o, h1, h2⟩ := hT.foot s os n hI.1 hn
      exact ⟨o, h1, fun m hm => .inl (h2 m hm)⟩
    · refine ⟨_, hI.2, fun m hm => .inl (hfv m ?_)⟩
      simpa [AO.clean, AV.clean.cleanL] using hm
theorem c86 {σ : Type} {ff : Fn} {fs cs : List AV} {F : Nat → Prop} {l : List Rate} {I : σ → (Nat → Option AO) → Prop} {step : σ → Rate → σ × Bool} (hl : l.length < 1000000) (hT : Tests (.fn ff fs cs) F (fun x => .agg [i64 x.day, i64 x.pence]) l I step) (hfv : ∀ m, (AV.fn ff fs cs).clean m = false → F m) {s : σ} {os : Nat → Option AO} {bd : Nat} (hI : I s os) :
    VCall Go.Proofs.Try.prog bd (.fn (.func 86) [] []) [.p (.sl (l.map encR)), .fn ff fs cs] os fun res os' => res = bl (allS step s l).2 ∧ I (allS step s l).1 os' ∧ ∀ n, ¬ F n → os' n = os n := by
  refine vcall_mk (v := [104]) (q := []) (N := 9) (rs := [.tmp 4]) Go.Proofs.Try.func86 rfl (by kernel_rfl) rfl rfl (fun hcl hfree => ?_)
  have hfr0 : ∀ k, os (bd + k) = none := fun k => hfree _ (by omega)
  have hF : ∀ n, F n → n < bd := fun n hn => by obtain ⟨o, h, _⟩ := hT.foot s os n hI hn; exact lt_of_live hfree h
  have hlv := hT.live _ _ hI
  have hcl0 : (Hp (upd os (bd + 3) (some (.cells [.fn ff fs cs])))).closed := closed_upd hcl (by
    rw [lives_cells_eq, livesL_cons, livesL_nil]
    exact ⟨AV.lives_mono (fun n hn => by by_cases e : n = bd + 3; · subst e; rw [upd_eq]; rfl
                                         · rw [upd_ne e]; exact hn) hlv, trivial⟩)
  have hI0 : I s (upd os (bd + 3) (some (.cells [.fn ff fs cs]))) := hT.stable s os _ hI (fun n hn => upd_ne (by have := hF n hn; omega))
  have ht := t105 hT (nb := bd + 3) (fun h => by have := hF _ h; omega) hfv
  obtain ⟨sa1, sa2⟩ := scan_all (step := step) l s 0
  refine awp_seq_k fun K1 hK1 => ?_
  refine awp_ops ?_
  simp (disch := omega) only [hfr0, amL, sA, sB, ↓reduceIte, reduceCtorEq]
  refine hK1 _ ?_
  refine awp_seq_k fun K2 hK2 => ?_
  refine awp_ops ?_
  simp (disch := omega) only [amL, sA, sF, ↓reduceIte, reduceCtorEq]
  refine EV_intro2 [] (by decide) (c104 (bd := bd + 9) hl ht ⟨hI0, upd_eq⟩) (fun n hn => by first | exact hfree n (by omega) | (rw [upd_ne (by omega)]; exact hfree n (by omega))) (Nat.le_add_right bd 9) (fun res os2 hR hcl2 hlv2 => ?_)
  obtain ⟨rfl, ⟨hI2, _⟩, hfr2⟩ := hR
  simp (disch := omega) only [amL, sA, ↓reduceIte]
  refine hK2 _ ?_
  refine awp_ret ?_
  try simp (disch := omega) only [amL]
  rw [sa1] at hI2
  obtain ⟨g1, g2, g3⟩ := hT.drop hcl hfree hI hI2 (fun n hn hF => by rw [hfr2 n (fun h => h.elim hF (fun e => by omega)), upd_ne (by omega)])
  refine retV_mk (res := bl _) (dropFrom bd os2) (by simp (disch := omega) only [amL, ↓reduceIte]; try rfl) (dropFrom_sub _ _) g1 (AV.lives_p _ _) ⟨by rw [sa2], g2, g3⟩
theorem c106 {σ : Type} {fv : AV} {F : Nat → Prop} {l : List Entry} {I : σ → (Nat → Option AO) → Prop} {step : σ → Entry → σ × Bool} (hl : l.length < 1000000) (hT : Tests fv F avE l I step) {s : σ} {os : Nat → Option AO} {bd : Nat} (hI : I s os) :
    VCall Go.Proofs.Try.prog bd (.fn (.func 106) [] []) [.p (.sl (l.map encE)), fv] os fun res os' => res = i64 (scan step s l 0).2 ∧ I (scan step s l 0).1 os' ∧ ∀ n, ¬ F n → os' n = os n := by
  refine vcall_mk (v := []) (q := []) (N := 19) (rs := [.tmp 4]) Go.Proofs.Try.func106 rfl (by kernel_rfl) rfl rfl (fun hcl hfree => ?_)
  have hfreeI : ∀ (s1 : σ) os1, I s1 os1 → (∀ n, ¬ F n → os1 n = os n) → ∀ n, bd ≤ n → os1 n = none := fun s1 os1 h1 h2 n hn => by
    by_cases hFn : F n
    · obtain ⟨o, h3, _⟩ := hT.foot s os n hI hFn
      have := lt_of_live hfree h3; omega
    · rw [h2 n hFn]; exact hfree n hn
  refine awp_seq_k fun K1 hK1 => ?_
  refine awp_ops ?_
  simp (disch := omega) only [amL, sA, sB]
  refine hK1 _ ?_
  refine awp_seq_k fun K2 hK2 => ?_
  refine awp_seq_k fun K3 hK3 => ?_
  refine awp_ops ?_
  simp (disch := omega) only [amL, amT, sA, ↓reduceIte, reduceCtorEq]
  refine hK3 _ ?_
  refine awp_block ?_
  skip
  refine awp_loop_k (α := Nat × σ × (Nat → Option AO)) (fun x => ⟨T [(0, .p (.sl (l.map encE))), (1, fv), (8, i64 x.1), (7, i64 l.length)], x.2.2⟩) (fun x => l.length - x.1) (fun x => x.1 ≤ l.length ∧ I x.2.1 x.2.2 ∧ (Hp x.2.2).closed ∧ (∀ n, ¬ F n → x.2.2 n = os n) ∧ scan step x.2.1 (l.drop x.1) x.1 = scan step s l 0) (0, s, os) ?_ ?_ (fun x hx4 K4 hK4 => ?_)
  · exact ⟨by simp, hI, hcl, fun _ _ => rfl, by simp⟩
  · refine le_os ?_ ?_ ?_ ?_ <;> (try simp (disch := omega) only [amL, sF, ↓reduceIte, reduceCtorEq]); all_goals first | exact hcl | exact Sub.refl _ | exact hT.live _ _ hI
  obtain ⟨k, s1, os1⟩ := x; dsimp only at hx4 ⊢; obtain ⟨hk, hI1, hcl1, hfr1, hsc⟩ := hx4
  refine awp_seq_k fun K5 hK5 => ?_
  refine awp_ops ?_
  simp (disch := omega) only [amL, amT, sA, sF, ↓reduceIte, reduceCtorEq]
  refine hK5 _ ?_
  refine awp_seq_k fun K6 hK6 => ?_
  refine awp_cond rfl (fun h => ?_) (fun h => ?_)
  ·first
   | exact Bool.noConfusion h
   |skip
    try simp only [decide_eq_true_eq] at h
    refine awp_skip ?_
    refine hK6 _ ?_
    refine awp_seq_k fun K7 hK7 => ?_
    refine awp_block ?_
    refine awp_seq_k fun K8 hK8 => ?_
    refine awp_ops ?_
    simp (disch := omega) only [amL, sA, sF, ↓reduceIte, reduceCtorEq]
    refine hK8 _ ?_
    refine awp_seq_k fun K9 hK9 => ?_
    refine awp_ops ?_
    simp (disch := omega) only [encE_getD, amL, amT, sA, sB, sF, ↓reduceIte, reduceCtorEq]
    refine EV_intro2 [(0, .p (.sl (l.map encE))), (1, fv), (5, i64 k), (8, i64 k), (7, i64 l.length)] (by decide) (hT.call s1 (l.getD k default) os1 bd (getD_mem default (by omega)) hI1 hcl1) (hfreeI _ _ hI1 hfr1) (Nat.le_refl _) (fun res os2 hR hcl2 hlv2 => ?_)
    obtain ⟨rfl, hI2, hfr2⟩ := hR
    have hv2 := hT.live _ _ hI2
    simp (disch := omega) only [amL, sF, ↓reduceIte, reduceCtorEq]
    refine ⟨hv2, ?_⟩
    refine hK9 _ ?_
    refine awp_cond rfl (fun h => ?_) (fun h => ?_)
    ·first
     | exact Bool.noConfusion h
     |skip
      try simp only [Bool.not_eq_true', decide_eq_true_eq, decide_eq_false_iff_not, Bool.and_eq_true, Bool.not_eq_false', Bool.not_not, decide_not, Bool.not_true, Bool.not_false] at h
      refine awp_seq_k fun K10 hK10 => ?_
      refine awp_ops ?_
      simp (disch := omega) only [amL, sA, sF, ↓reduceIte, reduceCtorEq]
      refine hK10 _ ?_
      refine awp_ret ?_
      try simp (disch := omega) only [amL]
      first | (refine retV_mk (res := i64 _) os1 (by simp (disch := omega) only [amL, ↓reduceIte]; try rfl) (Sub.refl _) hcl1 (AV.lives_p _ _) ?_ ; rw [scan_none (by omega) hsc]; exact ⟨rfl, hI1, hfr1⟩) | (refine retV_mk (res := i64 _) os2 (by simp (disch := omega) only [amL, ↓reduceIte]; try rfl) (Sub.refl _) hcl2 (AV.lives_p _ _) ?_ ; rw [scan_found default (by omega) h hsc]; exact ⟨rfl, hI2, fun n hn => (hfr2 n hn).trans (hfr1 n hn)⟩)
    ·first
     | exact Bool.noConfusion h
     |skip
      try simp only [Bool.not_eq_true', decide_eq_true_eq, decide_eq_false_iff_not, Bool.and_eq_true, Bool.not_eq_false', Bool.not_not, decide_not, Bool.not_true, Bool.not_false] at h
      refine awp_skip ?_
      refine hK7 _ ?_
      refine awp_ops ?_
      simp (disch := omega) only [amL, amT, sA, sF, ↓reduceIte, reduceCtorEq]
      refine hK4 (k+1, (step s1 (l.getD k default)).1, os2) _ ?_ ?_ (le_os ?_ ?_ ?_ ?_)
      all_goals (try simp (disch := omega) only [amL, sF, ↓reduceIte, reduceCtorEq])
      all_goals first | exact ⟨by omega, hI2, hcl2, fun n hn => (hfr2 n hn).trans (hfr1 n hn), scan_next default (by omega) h hsc⟩ | omega | exact hcl2 | exact Sub.refl _ | exact hv2
  ·first
   | exact Bool.noConfusion h
   |skip
    try simp only [decide_eq_false_iff_not] at h
    refine awp_exit ?_
    refine hK2 _ ?_
    refine awp_seq_k fun K11 hK11 => ?_
    refine awp_ops ?_
    simp (disch := omega) only [amL, sA, sM]
    refine hK11 _ ?_
    refine awp_ret ?_
    try simp (disch := omega) only [amL, sM]
    first | (refine retV_mk (res := i64 _) os1 (by simp (disch := omega) only [amL, sM, ↓reduceIte]; try rfl) (Sub.refl _) hcl1 (AV.lives_p _ _) ?_ ; rw [scan_none (by omega) hsc]; exact ⟨rfl, hI1, hfr1⟩) | (refine retV_mk (res := i64 _) os2 (by simp (disch := omega) only [encE_getD, amL, amT, sA, sB, sC, sD, sE, sF, sG, sH, sI, sJ, sK, sL, sM, sN, sO, ↓reduceIte, reduceCtorEq]; try rfl) (Sub.refl _) hcl2 (AV.lives_p _ _) ?_ ; rw [scan_found default (by omega) h hsc]; exact ⟨rfl, hI2, fun n hn => (hfr2 n hn).trans (hfr1 n hn)⟩)
theorem c88 {σ : Type} {fv : AV} {F : Nat → Prop} {l : List Entry} {I : σ → (Nat → Option AO) → Prop} {step : σ → Entry → σ × Bool} (hl : l.length < 1000000) (hT : Tests fv F avE l I step) {s : σ} {os : Nat → Option AO} {bd : Nat} (hI : I s os) :
    VCall Go.Proofs.Try.prog bd (.fn (.func 88) [] []) [.p (.sl (l.map encE)), fv] os fun res os' => res = bl (decide (0 ≤ (scan step s l 0).2)) ∧ I (scan step s l 0).1 os' ∧ ∀ n, ¬ F n → os' n = os n := by
  refine vcall_mk (v := [106]) (q := []) (N := 9) (rs := [.tmp 4]) Go.Proofs.Try.func88 rfl (by kernel_rfl) rfl rfl (fun hcl hfree => ?_)
  refine awp_seq_k fun K1 hK1 => ?_
  refine awp_ops ?_
  simp (disch := omega) only [amL, sA, sB]
  refine hK1 _ ?_
  refine awp_seq_k fun K2 hK2 => ?_
  refine awp_ops ?_
  simp (disch := omega) only [amL, sA, sF, ↓reduceIte, reduceCtorEq]
  refine EV_intro2 [] (by decide) (c106 hl hT hI) hfree (Nat.le_refl _) (fun res os2 hR hcl2 hlv2 => ?_)
  obtain ⟨rfl, hI2, hfr2⟩ := hR
  simp (disch := omega) only [amL, amT, sA, ↓reduceIte]
  refine hK2 _ ?_
  refine awp_ret ?_
  try simp (disch := omega) only [amL]
  refine retV_mk (res := bl _) os2 (by simp (disch := omega) only [amL, ↓reduceIte]; try rfl) (Sub.refl _) hcl2 (AV.lives_p _ _) ⟨rfl, hI2, hfr2⟩
theorem u89 {σ : Type} {fv : AV} {F : Nat → Prop} {l : List Entry} {I : σ → (Nat → Option AO) → Prop} {step : σ → Entry → σ × Bool} (hT : Tests fv F avE l I step) {nb : Nat} (hnb : ¬ F nb) {s : σ} {x : Entry} {os : Nat → Option AO} {bd : Nat} (hx : x ∈ l) (hI : I s os) (hnb1 : os nb = some (.cells [fv])) :
    VCall Go.Proofs.Try.prog bd (.fn (.func 89) [] [.ptr nb 0]) [avE x] os fun res os' => res = bl (!(step s x).2) ∧ (I (step s x).1 os' ∧ os' nb = some (.cells [fv])) ∧ ∀ n, ¬ (F n ∨ n = nb) → os' n = os n := by
  refine vcall_mk (v := []) (q := []) (N := 8) (rs := [.tmp 3]) Go.Proofs.Try.func89 rfl (by kernel_rfl) rfl rfl (fun hcl hfree => ?_)
  have hlt := lt_of_live hfree hnb1
  have hfr0 : ∀ k, os (bd + k) = none := fun k => hfree _ (by omega)
  have hlv := hT.live _ _ hI
  have hcl0 : (Hp (upd os (bd + 2) (some (.cells ([i64 x.kind, i64 x.day, i64 x.lo, i64 x.hi, i64 x.pence]))))).closed := closed_upd hcl (by rw [lives_cells_eq]; simp only [livesL_nil, livesL_cons, lives_p_eq, and_self])
  have hI0 : I s (upd os (bd + 2) (some (.cells ([i64 x.kind, i64 x.day, i64 x.lo, i64 x.hi, i64 x.pence])))) := hT.stable s os _ hI (fun n hn => upd_ne (by
    obtain ⟨o, h, _⟩ := hT.foot s os n hI hn
    have := lt_of_live hfree h; omega))
  have hfr8 : ∀ n, bd + 8 ≤ n → upd os (bd + 2) (some (.cells ([i64 x.kind, i64 x.day, i64 x.lo, i64 x.hi, i64 x.pence]))) n = none := fun n hn => by rw [upd_ne (by omega)]; exact hfree n (by omega)
  refine awp_seq_k fun K1 hK1 => ?_
  refine awp_ops ?_
  simp (disch := omega) only [hfr0, amL, sA, sB, ↓reduceIte]
  refine hK1 _ ?_
  refine awp_seq_k fun K2 hK2 => ?_
  refine awp_ops ?_
  simp (disch := omega) only [hnb1, upd_ne, amL, amT, sA, sB, sF, ↓reduceIte, reduceCtorEq]
  have hvc := hT.call s x _ (bd + 8) hx hI0 hcl0
  refine EV_intro2 [] (by decide) hvc hfr8 (Nat.le_add_right bd 8) (fun res os2 hR hcl2 hlv2 => ?_)
  obtain ⟨rfl, hI2, hfr2⟩ := hR
  simp (disch := omega) only [amL, sA, ↓reduceIte]
  refine hK2 _ ?_
  refine awp_ret ?_
  try simp (disch := omega) only [amL]
  obtain ⟨g1, g2, g3⟩ := hT.drop hcl hfree hI hI2 (fun n hn hF => by first | exact hfr2 n hF | (rw [hfr2 n hF, upd_ne (by omega)]))
  refine retV_mk (res := bl _) (dropFrom bd os2) (by simp (disch := omega) only [amL, ↓reduceIte]; try rfl) (dropFrom_sub _ _) g1 (AV.lives_p _ _) ⟨rfl, ⟨g2, ?_⟩, fun n hn => g3 n (fun h => hn (.inl h))⟩
  rw [g3 nb hnb]; exact hnb1
theorem t89 {σ : Type} {fv : AV} {F : Nat → Prop} {l : List Entry} {I : σ → (Nat → Option AO) → Prop} {step : σ → Entry → σ × Bool} (hT : Tests fv F avE l I step) {nb : Nat} (hnb : ¬ F nb) (hfv : ∀ m, fv.clean m = false → F m) :
    Tests (.fn (.func 89) [] [.ptr nb 0]) (fun n => F n ∨ n = nb) avE l (fun s os => I s os ∧ os nb = some (.cells [fv])) (fun s x => ((step s x).1, !(step s x).2)) := by
  refine ⟨fun s os hI => ?_, fun s os os' hI h => ⟨hT.stable s os os' hI.1 (fun n hn => h n (.inl hn)), (h nb (.inr rfl)).trans hI.2⟩, fun s os n hI hn => ?_, fun s x os bd hx hI _ => u89 hT hnb hx hI.1 hI.2⟩
  · rw [lives_fn_eq, livesL_nil, livesL_cons, livesL_nil, lives_ptr_eq, hI.2]; exact ⟨trivial, rfl, trivial⟩
  · rcases hn with hn | rfl
    · obtain ⟨o, h1, h2⟩ := hT.foot s os n hI.1 hn
      exact ⟨o, h1, fun m hm => .inl (h2 m hm)⟩
    · refine ⟨_, hI.2, fun m hm => .inl (hfv m ?_)⟩
      simpa [AO.clean, AV.clean.cleanL] using hm
theorem c65 {σ : Type} {ff : Fn} {fs cs : List AV} {F : Nat → Prop} {l : List Entry} {I : σ → (Nat → Option AO) → Prop} {step : σ → Entry → σ × Bool} (hl : l.length < 1000000) (hT : Tests (.fn ff fs cs) F avE l I step) (hfv : ∀ m, (AV.fn ff fs cs).clean m = false → F m) {s : σ} {os : Nat → Option AO} {bd : Nat} (hI : I s os) :
    VCall Go.Proofs.Try.prog bd (.fn (.func 65) [] []) [.p (.sl (l.map encE)), .fn ff fs cs] os fun res os' => res = bl (allS step s l).2 ∧ I (allS step s l).1 os' ∧ ∀ n, ¬ F n → os' n = os n := by
  refine vcall_mk (v := [88]) (q := []) (N := 9) (rs := [.tmp 4]) Go.Proofs.Try.func65 rfl (by kernel_rfl) rfl rfl (fun hcl hfree => ?_)
  have hfr0 : ∀ k, os (bd + k) = none := fun k => hfree _ (by omega)
  have hF : ∀ n, F n → n < bd := fun n hn => by obtain ⟨o, h, _⟩ := hT.foot s os n hI hn; exact lt_of_live hfree h
  have hlv := hT.live _ _ hI
  have hcl0 : (Hp (upd os (bd + 3) (some (.cells [.fn ff fs cs])))).closed := closed_upd hcl (by
    rw [lives_cells_eq, livesL_cons, livesL_nil]
    exact ⟨AV.lives_mono (fun n hn => by by_cases e : n = bd + 3; · subst e; rw [upd_eq]; rfl
                                         · rw [upd_ne e]; exact hn) hlv, trivial⟩)
  have hI0 : I s (upd os (bd + 3) (some (.cells [.fn ff fs cs]))) := hT.stable s os _ hI (fun n hn => upd_ne (by have := hF n hn; omega))
  have ht := t89 hT (nb := bd + 3) (fun h => by have := hF _ h; omega) hfv
  obtain ⟨sa1, sa2⟩ := scan_all (step := step) l s 0
  refine awp_seq_k fun K1 hK1 => ?_
  refine awp_ops ?_
  simp (disch := omega) only [hfr0, amL, sA, sB, ↓reduceIte, reduceCtorEq]
  refine hK1 _ ?_
  refine awp_seq_k fun K2 hK2 => ?_
  refine awp_ops ?_
  simp (disch := omega) only [amL, sA, sF, ↓reduceIte, reduceCtorEq]
  refine EV_intro2 [] (by decide) (c88 (bd := bd + 9) hl ht ⟨hI0, upd_eq⟩) (fun n hn => by first | exact hfree n (by omega) | (rw [upd_ne (by omega)]; exact hfree n (by omega))) (Nat.le_add_right bd 9) (fun res os2 hR hcl2 hlv2 => ?_)
  obtain ⟨rfl, ⟨hI2, _⟩, hfr2⟩ := hR
  simp (disch := omega) only [amL, sA, ↓reduceIte]
  refine hK2 _ ?_
  refine awp_ret ?_
  try simp (disch := omega) only [amL]
  rw [sa1] at hI2
  obtain ⟨g1, g2, g3⟩ := hT.drop hcl hfree hI hI2 (fun n hn hF => by rw [hfr2 n (fun h => h.elim hF (fun e => by omega)), upd_ne (by omega)])
  refine retV_mk (res := bl _) (dropFrom bd os2) (by simp (disch := omega) only [amL, ↓reduceIte]; try rfl) (dropFrom_sub _ _) g1 (AV.lives_p _ _) ⟨by rw [sa2], g2, g3⟩
theorem c116 {σ : Type} {fv : AV} {F : Nat → Prop} {l : List (List Int)} {I : σ → (Nat → Option AO) → Prop} {step : σ → (List Int) → σ × Bool} (hl : l.length < 1000000) (hT : Tests fv F (fun t => isl t) l I step) {s : σ} {os : Nat → Option AO} {bd : Nat} (hI : I s os) :
    VCall Go.Proofs.Try.prog bd (.fn (.func 116) [] []) [.p (.sl (l.map encT)), fv] os fun res os' => res = i64 (scan step s l 0).2 ∧ I (scan step s l 0).1 os' ∧ ∀ n, ¬ F n → os' n = os n := by
  refine vcall_mk (v := []) (q := []) (N := 19) (rs := [.tmp 4]) Go.Proofs.Try.func116 rfl (by kernel_rfl) rfl rfl (fun hcl hfree => ?_)
  have hfreeI : ∀ (s1 : σ) os1, I s1 os1 → (∀ n, ¬ F n → os1 n = os n) → ∀ n, bd ≤ n → os1 n = none := fun s1 os1 h1 h2 n hn => by
    by_cases hFn : F n
    · obtain ⟨o, h3, _⟩ := hT.foot s os n hI hFn
      have := lt_of_live hfree h3; omega
    · rw [h2 n hFn]; exact hfree n hn
  refine awp_seq_k fun K1 hK1 => ?_
  refine awp_ops ?_
  simp (disch := omega) only [amL, sA, sB]
  refine hK1 _ ?_
  refine awp_seq_k fun K2 hK2 => ?_
  refine awp_seq_k fun K3 hK3 => ?_
  refine awp_ops ?_
  simp (disch := omega) only [amL, amT, sA, ↓reduceIte, reduceCtorEq]
  refine hK3 _ ?_
  refine awp_block ?_
  skip
  refine awp_loop_k (α := Nat × σ × (Nat → Option AO)) (fun x => ⟨T [(0, .p (.sl (l.map encT))), (1, fv), (8, i64 x.1), (7, i64 l.length)], x.2.2⟩) (fun x => l.length - x.1) (fun x => x.1 ≤ l.length ∧ I x.2.1 x.2.2 ∧ (Hp x.2.2).closed ∧ (∀ n, ¬ F n → x.2.2 n = os n) ∧ scan step x.2.1 (l.drop x.1) x.1 = scan step s l 0) (0, s, os) ?_ ?_ (fun x hx4 K4 hK4 => ?_)
  · exact ⟨by simp, hI, hcl, fun _ _ => rfl, by simp⟩
  · refine le_os ?_ ?_ ?_ ?_ <;> (try simp (disch := omega) only [amL, sF, ↓reduceIte, reduceCtorEq]); all_goals first | exact hcl | exact Sub.refl _ | exact hT.live _ _ hI
  obtain ⟨k, s1, os1⟩ := x; dsimp only at hx4 ⊢; obtain ⟨hk, hI1, hcl1, hfr1, hsc⟩ := hx4
  refine awp_seq_k fun K5 hK5 => ?_
  refine awp_ops ?_
  simp (disch := omega) only [amL, amT, sA, sF, ↓reduceIte, reduceCtorEq]
  refine hK5 _ ?_
  refine awp_seq_k fun K6 hK6 => ?_
  refine awp_cond rfl (fun h => ?_) (fun h => ?_)
  ·first
   | exact Bool.noConfusion h
   |skip
    try simp only [decide_eq_true_eq] at h
    refine awp_skip ?_
    refine hK6 _ ?_
    refine awp_seq_k fun K7 hK7 => ?_
    refine awp_block ?_
    refine awp_seq_k fun K8 hK8 => ?_
    refine awp_ops ?_
    simp (disch := omega) only [amL, sA, sF, ↓reduceIte, reduceCtorEq]
    refine hK8 _ ?_
    refine awp_seq_k fun K9 hK9 => ?_
    refine awp_ops ?_
    simp (disch := omega) only [encT_getD, amL, amT, sA, sF, ↓reduceIte, reduceCtorEq]
    refine EV_intro2 [(0, .p (.sl (l.map encT))), (1, fv), (5, i64 k), (8, i64 k), (7, i64 l.length)] (by decide) (hT.call s1 (l.getD k []) os1 bd (getD_mem [] (by omega)) hI1 hcl1) (hfreeI _ _ hI1 hfr1) (Nat.le_refl _) (fun res os2 hR hcl2 hlv2 => ?_)
    obtain ⟨rfl, hI2, hfr2⟩ := hR
    have hv2 := hT.live _ _ hI2
    simp (disch := omega) only [amL, sF, ↓reduceIte, reduceCtorEq]
    refine ⟨hv2, ?_⟩
    refine hK9 _ ?_
    refine awp_cond rfl (fun h => ?_) (fun h => ?_)
    ·first
     | exact Bool.noConfusion h
     |skip
      try simp only [Bool.not_eq_true', decide_eq_true_eq, decide_eq_false_iff_not, Bool.and_eq_true, Bool.not_eq_false', Bool.not_not, decide_not, Bool.not_true, Bool.not_false] at h
      refine awp_seq_k fun K10 hK10 => ?_
      refine awp_ops ?_
      simp (disch := omega) only [amL, sA, sF, ↓reduceIte, reduceCtorEq]
      refine hK10 _ ?_
      refine awp_ret ?_
      try simp (disch := omega) only [amL]
      first | (refine retV_mk (res := i64 _) os1 (by simp (disch := omega) only [amL, ↓reduceIte]; try rfl) (Sub.refl _) hcl1 (AV.lives_p _ _) ?_ ; rw [scan_none (by omega) hsc]; exact ⟨rfl, hI1, hfr1⟩) | (refine retV_mk (res := i64 _) os2 (by simp (disch := omega) only [amL, ↓reduceIte]; try rfl) (Sub.refl _) hcl2 (AV.lives_p _ _) ?_ ; rw [scan_found [] (by omega) h hsc]; exact ⟨rfl, hI2, fun n hn => (hfr2 n hn).trans (hfr1 n hn)⟩)
    ·first
     | exact Bool.noConfusion h
     |skip
      try simp only [Bool.not_eq_true', decide_eq_true_eq, decide_eq_false_iff_not, Bool.and_eq_true, Bool.not_eq_false', Bool.not_not, decide_not, Bool.not_true, Bool.not_false] at h
      refine awp_skip ?_
      refine hK7 _ ?_
      refine awp_ops ?_
      simp (disch := omega) only [amL, amT, sA, sF, ↓reduceIte, reduceCtorEq]
      refine hK4 (k+1, (step s1 (l.getD k [])).1, os2) _ ?_ ?_ (le_os ?_ ?_ ?_ ?_)
      all_goals (try simp (disch := omega) only [amL, sF, ↓reduceIte, reduceCtorEq])
      all_goals first | exact ⟨by omega, hI2, hcl2, fun n hn => (hfr2 n hn).trans (hfr1 n hn), scan_next [] (by omega) h hsc⟩ | omega | exact hcl2 | exact Sub.refl _ | exact hv2
  ·first
   | exact Bool.noConfusion h
   |skip
    try simp only [decide_eq_false_iff_not] at h
    refine awp_exit ?_
    refine hK2 _ ?_
    refine awp_seq_k fun K11 hK11 => ?_
    refine awp_ops ?_
    simp (disch := omega) only [amL, sA, sM]
    refine hK11 _ ?_
    refine awp_ret ?_
    try simp (disch := omega) only [amL, sM]
    first | (refine retV_mk (res := i64 _) os1 (by simp (disch := omega) only [amL, sM, ↓reduceIte]; try rfl) (Sub.refl _) hcl1 (AV.lives_p _ _) ?_ ; rw [scan_none (by omega) hsc]; exact ⟨rfl, hI1, hfr1⟩) | (refine retV_mk (res := i64 _) os2 (by simp (disch := omega) only [encT_getD, amL, amT, sA, sB, sC, sD, sE, sF, sG, sH, sI, sJ, sK, sL, sM, sN, sO, ↓reduceIte, reduceCtorEq]; try rfl) (Sub.refl _) hcl2 (AV.lives_p _ _) ?_ ; rw [scan_found [] (by omega) h hsc]; exact ⟨rfl, hI2, fun n hn => (hfr2 n hn).trans (hfr1 n hn)⟩)
theorem c111 {σ : Type} {fv : AV} {F : Nat → Prop} {l : List (List Int)} {I : σ → (Nat → Option AO) → Prop} {step : σ → (List Int) → σ × Bool} (hl : l.length < 1000000) (hT : Tests fv F (fun t => isl t) l I step) {s : σ} {os : Nat → Option AO} {bd : Nat} (hI : I s os) :
    VCall Go.Proofs.Try.prog bd (.fn (.func 111) [] []) [.p (.sl (l.map encT)), fv] os fun res os' => res = bl (decide (0 ≤ (scan step s l 0).2)) ∧ I (scan step s l 0).1 os' ∧ ∀ n, ¬ F n → os' n = os n := by
  refine vcall_mk (v := [116]) (q := []) (N := 9) (rs := [.tmp 4]) Go.Proofs.Try.func111 rfl (by kernel_rfl) rfl rfl (fun hcl hfree => ?_)
  refine awp_seq_k fun K1 hK1 => ?_
  refine awp_ops ?_
  simp (disch := omega) only [amL, sA, sB]
  refine hK1 _ ?_
  refine awp_seq_k fun K2 hK2 => ?_
  refine awp_ops ?_
  simp (disch := omega) only [amL, sA, sF, ↓reduceIte, reduceCtorEq]
  refine EV_intro2 [] (by decide) (c116 hl hT hI) hfree (Nat.le_refl _) (fun res os2 hR hcl2 hlv2 => ?_)
  obtain ⟨rfl, hI2, hfr2⟩ := hR
  simp (disch := omega) only [amL, amT, sA, ↓reduceIte]
  refine hK2 _ ?_
  refine awp_ret ?_
  try simp (disch := omega) only [amL]
  refine retV_mk (res := bl _) os2 (by simp (disch := omega) only [amL, ↓reduceIte]; try rfl) (Sub.refl _) hcl2 (AV.lives_p _ _) ⟨rfl, hI2, hfr2⟩
theorem u112 {σ : Type} {fv : AV} {F : Nat → Prop} {l : List (List Int)} {I : σ → (Nat → Option AO) → Prop} {step : σ → (List Int) → σ × Bool} (hT : Tests fv F (fun t => isl t) l I step) {nb : Nat} (hnb : ¬ F nb) {s : σ} {x : (List Int)} {os : Nat → Option AO} {bd : Nat} (hx : x ∈ l) (hI : I s os) (hnb1 : os nb = some (.cells [fv])) :
    VCall Go.Proofs.Try.prog bd (.fn (.func 112) [] [.ptr nb 0]) [(fun t => isl t) x] os fun res os' => res = bl (!(step s x).2) ∧ (I (step s x).1 os' ∧ os' nb = some (.cells [fv])) ∧ ∀ n, ¬ (F n ∨ n = nb) → os' n = os n := by
  refine vcall_mk (v := []) (q := []) (N := 8) (rs := [.tmp 3]) Go.Proofs.Try.func112 rfl (by kernel_rfl) rfl rfl (fun hcl hfree => ?_)
  have hlt := lt_of_live hfree hnb1
  have hfr0 : ∀ k, os (bd + k) = none := fun k => hfree _ (by omega)
  have hlv := hT.live _ _ hI
  have hcl0 := hcl
  have hI0 := hI
  have hfr8 : ∀ n, bd + 8 ≤ n → os n = none := fun n hn => hfree n (by omega)
  refine awp_seq_k fun K1 hK1 => ?_
  refine awp_ops ?_
  simp (disch := omega) only [amL, sA, sB]
  refine hK1 _ ?_
  refine awp_seq_k fun K2 hK2 => ?_
  refine awp_ops ?_
  simp (disch := omega) only [hnb1, amL, amT, sA, sF, ↓reduceIte, reduceCtorEq]
  have hvc := hT.call s x _ (bd + 8) hx hI0 hcl0
  refine EV_intro2 [] (by decide) hvc hfr8 (Nat.le_add_right bd 8) (fun res os2 hR hcl2 hlv2 => ?_)
  obtain ⟨rfl, hI2, hfr2⟩ := hR
  simp (disch := omega) only [amL, sA, ↓reduceIte]
  refine hK2 _ ?_
  refine awp_ret ?_
  try simp (disch := omega) only [amL]
  obtain ⟨g1, g2, g3⟩ := hT.drop hcl hfree hI hI2 (fun n hn hF => by first | exact hfr2 n hF | (rw [hfr2 n hF, upd_ne (by omega)]))
  refine retV_mk (res := bl _) (dropFrom bd os2) (by simp (disch := omega) only [amL, ↓reduceIte]; try rfl) (dropFrom_sub _ _) g1 (AV.lives_p _ _) ⟨rfl, ⟨g2, ?_⟩, fun n hn => g3 n (fun h => hn (.inl h))⟩
  rw [g3 nb hnb]; exact hnb1
theorem t112 {σ : Type} {fv : AV} {F : Nat → Prop} {l : List (List Int)} {I : σ → (Nat → Option AO) → Prop} {step : σ → (List Int) → σ × Bool} (hT : Tests fv F (fun t => isl t) l I step) {nb : Nat} (hnb : ¬ F nb) (hfv : ∀ m, fv.clean m = false → F m) :
    Tests (.fn (.func 112) [] [.ptr nb 0]) (fun n => F n ∨ n = nb) (fun t => isl t) l (fun s os => I s os ∧ os nb = some (.cells [fv])) (fun s x => ((step s x).1, !(step s x).2)) := by
  refine ⟨fun s os hI => ?_, fun s os os' hI h => ⟨hT.stable s os os' hI.1 (fun n hn => h n (.inl hn)), (h nb (.inr rfl)).trans hI.2⟩, fun s os n hI hn => ?_, fun s x os bd hx hI _ => u112 hT hnb hx hI.1 hI.2⟩
  · rw [lives_fn_eq, livesL_nil, livesL_cons, livesL_nil, lives_ptr_eq, hI.2]; exact ⟨trivial, rfl, trivial⟩
  · rcases hn with hn | rfl
    · obtain ⟨o, h1, h2⟩ := hT.foot s os n hI.1 hn
      exact ⟨o, h1, fun m hm => .inl (h2 m hm)⟩
    · refine ⟨_, hI.2, fun m hm => .inl (hfv m ?_)⟩
      simpa [AO.clean, AV.clean.cleanL] using hm
theorem c96 {σ : Type} {ff : Fn} {fs cs : List AV} {F : Nat → Prop} {l : List (List Int)} {I : σ → (Nat → Option AO) → Prop} {step : σ → (List Int) → σ × Bool} (hl : l.length < 1000000) (hT : Tests (.fn ff fs cs) F (fun t => isl t) l I step) (hfv : ∀ m, (AV.fn ff fs cs).clean m = false → F m) {s : σ} {os : Nat → Option AO} {bd : Nat} (hI : I s os) :
    VCall Go.Proofs.Try.prog bd (.fn (.func 96) [] []) [.p (.sl (l.map encT)), .fn ff fs cs] os fun res os' => res = bl (allS step s l).2 ∧ I (allS step s l).1 os' ∧ ∀ n, ¬ F n → os' n = os n := by
  refine vcall_mk (v := [111]) (q := []) (N := 9) (rs := [.tmp 4]) Go.Proofs.Try.func96 rfl (by kernel_rfl) rfl rfl (fun hcl hfree => ?_)
  have hfr0 : ∀ k, os (bd + k) = none := fun k => hfree _ (by omega)
  have hF : ∀ n, F n → n < bd := fun n hn => by obtain ⟨o, h, _⟩ := hT.foot s os n hI hn; exact lt_of_live hfree h
  have hlv := hT.live _ _ hI
  have hcl0 : (Hp (upd os (bd + 3) (some (.cells [.fn ff fs cs])))).closed := closed_upd hcl (by
    rw [lives_cells_eq, livesL_cons, livesL_nil]
    exact ⟨AV.lives_mono (fun n hn => by by_cases e : n = bd + 3; · subst e; rw [upd_eq]; rfl
                                         · rw [upd_ne e]; exact hn) hlv, trivial⟩)
  have hI0 : I s (upd os (bd + 3) (some (.cells [.fn ff fs cs]))) := hT.stable s os _ hI (fun n hn => upd_ne (by have := hF n hn; omega))
  have ht := t112 hT (nb := bd + 3) (fun h => by have := hF _ h; omega) hfv
  obtain ⟨sa1, sa2⟩ := scan_all (step := step) l s 0
  refine awp_seq_k fun K1 hK1 => ?_
  refine awp_ops ?_
  simp (disch := omega) only [hfr0, amL, sA, sB, ↓reduceIte, reduceCtorEq]
  refine hK1 _ ?_
  refine awp_seq_k fun K2 hK2 => ?_
  refine awp_ops ?_
  simp (disch := omega) only [amL, sA, sF, ↓reduceIte, reduceCtorEq]
  refine EV_intro2 [] (by decide) (c111 (bd := bd + 9) hl ht ⟨hI0, upd_eq⟩) (fun n hn => by first | exact hfree n (by omega) | (rw [upd_ne (by omega)]; exact hfree n (by omega))) (Nat.le_add_right bd 9) (fun res os2 hR hcl2 hlv2 => ?_)
  obtain ⟨rfl, ⟨hI2, _⟩, hfr2⟩ := hR
  simp (disch := omega) only [amL, sA, ↓reduceIte]
  refine hK2 _ ?_
  refine awp_ret ?_
  try simp (disch := omega) only [amL]
  rw [sa1] at hI2
  obtain ⟨g1, g2, g3⟩ := hT.drop hcl hfree hI hI2 (fun n hn hF => by rw [hfr2 n (fun h => h.elim hF (fun e => by omega)), upd_ne (by omega)])
  refine retV_mk (res := bl _) (dropFrom bd os2) (by simp (disch := omega) only [amL, ↓reduceIte]; try rfl) (dropFrom_sub _ _) g1 (AV.lives_p _ _) ⟨by rw [sa2], g2, g3⟩
end AM.Try
end
/- The abstract machine, part 39: aggregates of ints: their equality, and as keys. -/
section
namespace AM
open Go
def flatT (P : Program) : Nat → TypeId → Bool
  | 0, _ => false
  | m + 1, t => match P.underlying t with
    | some (.int .i64) => P.cellsOf t == 1
    | some (.array n e) => P.cellsOf t == n * P.cellsOf e && flatT P m e
    | some (.struct fs) => fs.toList.all fun f => f.name != "_" && decide (f.offset + P.cellsOf f.type ≤ P.cellsOf t) && flatT P m f.type
    | _ => false
theorem mapM_some' {α β : Type} {f : α → Option β} : ∀ {l : List α}, (∀ x ∈ l, ∃ y, f x = some y) → ∃ ys, l.mapM f = some ys
  | [], _ => ⟨[], rfl⟩
  | x :: l, h => by
    obtain ⟨y, hy⟩ := h x (by simp)
    obtain ⟨ys, hys⟩ := mapM_some' (l := l) (fun z hz => h z (by simp [hz]))
    exact ⟨y :: ys, by rw [List.mapM_cons, hy]; simp [hys]⟩
theorem inR_wf {n : Int} (h : inR n = true) : (Lit.int .i64 n).wf = true := by
  simp only [inR, Bool.and_eq_true, decide_eq_true_eq] at h
  simp only [Lit.wf, Bool.and_eq_true, decide_eq_true_eq, IntKind.min, IntKind.max, IntKind.signed, IntKind.bits]
  simp
  omega
theorem lits_some {P : Program} : ∀ (m : Nat) (t : TypeId), flatT P m t = true → ∀ cs : List Value, cs.length = P.cellsOf t → (∀ v ∈ cs, ∃ n, v = .int .i64 n ∧ inR n = true) → ∃ l, P.keyLits m t cs = some l
  | 0, _, h, _, _, _ => by simp [flatT] at h
  | m + 1, t, h, cs, hl, hv => by
    have sub : ∀ off c, off + c ≤ cs.length → ((cs.drop off).take c).length = c ∧ ∀ v ∈ (cs.drop off).take c, ∃ n, v = .int .i64 n ∧ inR n = true := fun off c hc => by
      refine ⟨by rw [List.length_take, List.length_drop]; omega, fun v hm => hv v (List.mem_of_mem_drop (List.mem_of_mem_take hm))⟩
    unfold flatT at h
    unfold Program.keyLits
    cases hu : P.underlying t with
    | none => simp [hu] at h
    | some kd =>
      cases kd with
      | int k =>
        cases k <;> simp [hu] at h
        rw [h] at hl
        match cs, hl with
        | [v], _ =>
          obtain ⟨n, rfl, hn⟩ := hv v (by simp)
          exact ⟨[.int .i64 n], by simp [inR_wf hn]⟩
      | array n e =>
        simp only [hu, Bool.and_eq_true, beq_iff_eq] at h
        obtain ⟨ys, hys⟩ := mapM_some' (l := List.range n) (f := fun i => P.keyLits m e ((cs.drop (i * P.cellsOf e)).take (P.cellsOf e))) (fun i hi => by
          have hi' : i < n := by simpa using hi
          have : (i + 1) * P.cellsOf e ≤ n * P.cellsOf e := Nat.mul_le_mul_right _ (by omega)
          rw [Nat.add_mul] at this
          obtain ⟨h1, h2⟩ := sub (i * P.cellsOf e) (P.cellsOf e) (by rw [hl, h.1]; omega)
          exact lits_some m e h.2 _ h1 h2)
        simp only [hl, if_true, hys]
        exact ⟨_, rfl⟩
      | struct fs =>
        simp only [hu, List.all_eq_true, Bool.and_eq_true, decide_eq_true_eq] at h
        obtain ⟨ys, hys⟩ := mapM_some' (l := fs.toList) (f := fun f => P.keyLits m f.type ((cs.drop f.offset).take (P.cellsOf f.type))) (fun f hf => by
          obtain ⟨⟨_, g2⟩, g3⟩ := h f hf
          obtain ⟨h1, h2⟩ := sub f.offset (P.cellsOf f.type) (by rw [hl]; exact g2)
          exact lits_some m f.type g3 _ h1 h2)
        have hn : fs.all (·.name != "_") = true := by
          rw [← Array.all_toList, List.all_eq_true]
          exact fun f hf => (h f hf).1.1
        simp only [hl, hn, and_self, if_true, hys]
        exact ⟨_, rfl⟩
      | _ => simp [hu] at h
theorem ints_cells {ks : List Int} (hr : ks.all inR = true) : ∀ v ∈ ks.map (Value.int .i64), ∃ n, v = .int .i64 n ∧ inR n = true := fun v hv => by
  obtain ⟨n, hn, rfl⟩ := List.mem_map.1 hv
  exact ⟨n, rfl, List.all_eq_true.1 hr n hn⟩
theorem formed_agg {P : Program} {t : TypeId} {cs : Array Value} (h : (match P.underlying t with | some (.struct _) | some (.array _ _) => true | _ => false) = true) (hs : cs.size = P.cellsOf t) : (Value.agg cs).formed P t = true := by
  unfold Value.formed
  split at h
  · rename_i hu; simp [hu, hs]
  · rename_i hu; simp [hu, hs]
  · cases h
def intsTy (P : Program) (t : TypeId) (n : Nat) : Bool := flatT P 8 t && P.keyTypeAt 8 t && P.tiled 8 t && P.cellsOf t == n && !P.eqGuardType P.depth t && (match P.underlying t with | some (.struct _) | some (.array _ _) => true | _ => false)
theorem intsEq_of {P : Program} {t : TypeId} {n : Nat} (h : intsTy P t n = true) : IntsEq P t n := by
  simp only [intsTy, Bool.and_eq_true, beq_iff_eq, Bool.not_eq_true'] at h
  obtain ⟨⟨⟨⟨⟨h1, h2⟩, h3⟩, h4⟩, h5⟩, h6⟩ := h
  refine ⟨h5, fun a b ha hb hra hrb w => ?_⟩
  obtain ⟨la, hla⟩ := lits_some 8 t h1 (a.map (Value.int .i64)) (by simp [ha, h4]) (ints_cells hra)
  obtain ⟨lb, hlb⟩ := lits_some 8 t h1 (b.map (Value.int .i64)) (by simp [hb, h4]) (ints_cells hrb)
  obtain ⟨r, hr, hiff⟩ := run_equalIn_deep (10000 - 8) 8 t h2 w 8 8 (.agg (a.map (Value.int .i64)).toArray) (.agg (b.map (Value.int .i64)).toArray) la lb (formed_agg h6 (by simp [ha, h4])) (formed_agg h6 (by simp [hb, h4])) (by simpa [Value.cells] using hla) (by simpa [Value.cells] using hlb)
  have c1 := cells_of_lits 8 t h3 _ _ _ hla
  have c2 := cells_of_lits 8 t h3 _ _ _ hlb
  have hr : (Op.equal t (.agg (a.map (Value.int .i64)).toArray) (.agg (b.map (Value.int .i64)).toArray)).run P w = .ok r w := hr
  rw [hr]
  congr 1
  cases r with
  | true =>
    have e := hiff.1 rfl
    rw [← e, ← c1] at c2
    have : a = b := ((List.map_inj_right (fun x y e => by cases e; rfl)).1 c2).symm
    simp [this]
  | false =>
    have : a ≠ b := fun e => by
      subst e
      rw [hla] at hlb
      cases hlb
      exact absurd (hiff.2 rfl) (by simp)
    simp [this]
def keyTy (P : Program) (k : TypeId) (n : Nat) : Bool := intsTy P k n && P.keyType k && flatT P (P.types.size + 1) k
theorem keyOk_of {P : Program} {k : TypeId} {n : Nat} (h : keyTy P k n = true) : KeyOk P k n := by
  simp only [keyTy, intsTy, Bool.and_eq_true, beq_iff_eq, Bool.not_eq_true'] at h
  obtain ⟨⟨⟨⟨⟨⟨⟨h1, h2⟩, h3⟩, h4⟩, h5⟩, h6⟩, h7⟩, h8⟩ := h
  have h6' : (match P.underlying k with | some (.array _ _) | some (.struct _) => true | _ => false) = true := by
    split at h6
    · rename_i hu; simp [hu]
    · rename_i hu; simp [hu]
    · cases h6
  refine ⟨deep_law (m := 8) (by omega) h2 h3 h6', fun ks hl hr => ?_⟩
  obtain ⟨l, hll⟩ := lits_some _ k h8 (ks.map (Value.int .i64)) (by simp [hl, h4]) (ints_cells hr)
  have hf := formed_agg (P := P) (t := k) (cs := (ks.map (Value.int .i64)).toArray) h6 (by simp [hl, h4])
  unfold keyOf
  split at h6
  · rename_i hu
    simp only [h7, hf, Bool.and_self, if_true]
    refine ⟨.string (keyBytes l), ?_⟩
    have : (Value.agg (ks.map (Value.int .i64)).toArray).cells.toList = ks.map (Value.int .i64) := by simp [Value.cells]
    rw [this, hll]; simp [hu]
  · rename_i hu
    simp only [h7, hf, Bool.and_self, if_true]
    refine ⟨.string (keyBytes l), ?_⟩
    have : (Value.agg (ks.map (Value.int .i64)).toArray).cells.toList = ks.map (Value.int .i64) := by simp [Value.cells]
    rw [this, hll]; simp [hu]
  · cases h6
end AM
end
/- The reference's small functions. -/
section
namespace AM.Try
open Go AM AM.Duty
open Nat renaming reduceLT → sA, reduceAdd → sB, reduceMul → sC, reduceSub → sD, reduceLeDiff → sE, reduceEqDiff → sF, reduceBEq → sG
open Int renaming reduceAdd → sH, reduceSub → sI, reduceMul → sJ, reduceLT → sK, reduceLE → sL, reduceNeg → sM, reduceToNat → sN, reduceEq → sO
set_option maxHeartbeats 4000000
theorem c48 (n lo hi : Int) : PCall Go.Proofs.Try.prog 48 [i64 n, i64 lo, i64 hi] (bl (inB n lo hi)) := by
  refine pcall_mk (v := []) (q := []) (N := 15) (rs := [.tmp 6]) Go.Proofs.Try.func48 rfl rfl rfl rfl rfl ?_
  refine awp_seq_k fun K1 hK1 => ?_
  refine awp_ops ?_
  simp (disch := omega) only [amL, sA, sB]
  refine hK1 _ ?_
  refine awp_seq_k fun K2 hK2 => ?_
  refine awp_ops ?_
  simp (disch := omega) only [amL, amT, sA, sF, ↓reduceIte, reduceCtorEq]
  repeat' first | (refine EG_dec (fun h => ?_) (fun h => ?_) <;> simp (disch := omega) only [h, amL, amT, sA, sF, ↓reduceIte, reduceCtorEq]) | (refine EG_cases (fun h => ?_) (fun h => ?_) <;> simp (disch := omega) only [h, amL, amT, sA, sB, sC, sD, sE, sF, sG, sH, sI, sJ, sK, sL, sM, sN, sO, ↓reduceIte, reduceCtorEq])
  all_goals
   skip
   refine hK2 _ ?_
   refine awp_ret ?_
   try simp (disch := omega) only [amL, ↓reduceIte]
   simp [inB, h]
theorem c84 (a : Acc) (e : Entry) : PCall Go.Proofs.Try.prog 84 [avA a, avE e] (bl (isEntry a.last e)) := by
  refine pcall_mk (v := []) (q := []) (N := 85) (rs := [.tmp 4]) Go.Proofs.Try.func84 rfl rfl rfl rfl rfl ?_
  refine awp_seq_k fun K1 hK1 => ?_
  refine awp_ops ?_
  simp (disch := omega) only [amL, sA, sB, sF, ↓reduceIte, reduceCtorEq]
  refine hK1 _ ?_
  refine awp_seq_k fun K2 hK2 => ?_
  refine awp_ops ?_
  simp (disch := omega) only [amL, amT, sA, sB, sE, sF, ↓reduceIte, reduceCtorEq]
  refine hK2 _ ?_
  refine awp_seq_k fun K3 hK3 => ?_
  refine awp_seq_k fun K4 hK4 => ?_
  refine awp_ops ?_
  simp (disch := omega) only [amL, amT, sA, sF, ↓reduceIte, reduceCtorEq]
  repeat' first | (refine EC_intro (by kernel_rfl) rfl (c48 _ _ _) (by first | exact .inl rfl | exact .inr (.inl rfl)) ?_ ; simp (disch := omega) only [amL, sA, ↓reduceIte])
  refine hK4 _ ?_
  refine awp_cond rfl (fun h => ?_) (fun h => ?_)
  ·first
   | exact Bool.noConfusion h
   |skip
    try simp only [Bool.not_eq_true'] at h
    refine awp_seq_k fun K5 hK5 => ?_
    refine awp_ops ?_
    simp (disch := omega) only [amL, sA]
    refine hK5 _ ?_
    refine awp_ret ?_
    try simp (disch := omega) only [amL, ↓reduceIte]
    all_goals (simp_all [isEntry] <;> omega)
  ·first
   | exact Bool.noConfusion h
   |skip
    try simp only [Bool.not_eq_false'] at h
    refine awp_skip ?_
    refine hK3 _ ?_
    refine awp_seq_k fun K6 hK6 => ?_
    refine awp_seq_k fun K7 hK7 => ?_
    refine awp_ops ?_
    simp (disch := omega) only [amL, amT, sA, sF, ↓reduceIte, reduceCtorEq]
    refine hK7 _ ?_
    refine awp_block ?_
    refine awp_seq_k fun K8 hK8 => ?_
    refine awp_ops ?_
    simp (disch := omega) only [amL, amT, sA, ↓reduceIte]
    refine hK8 _ ?_
    refine awp_cond rfl (fun h => ?_) (fun h => ?_)
    ·first
     | exact Bool.noConfusion h
     |skip
      try simp only [decide_eq_true_eq] at h
      refine awp_seq_k fun K9 hK9 => ?_
      refine awp_ops ?_
      simp (disch := omega) only [amL, amT, sA, sF, ↓reduceIte, reduceCtorEq]
      repeat' first | (refine EG_dec (fun h => ?_) (fun h => ?_) <;> simp (disch := omega) only [h, amL, amT, sA, sF, ↓reduceIte, reduceCtorEq]) | (refine EG_cases (fun h => ?_) (fun h => ?_) <;> simp (disch := omega) only [h, amL, amT, sA, sB, sC, sD, sE, sF, sG, sH, sI, sJ, sK, sL, sM, sN, sO, ↓reduceIte, reduceCtorEq])
      all_goals
       skip
       refine hK9 _ ?_
       refine awp_ret ?_
       try simp (disch := omega) only [amL, ↓reduceIte]
       all_goals (simp_all [isEntry] <;> omega)
    ·first
     | exact Bool.noConfusion h
     |skip
      try simp only [decide_eq_false_iff_not] at h
      refine awp_seq_k fun K10 hK10 => ?_
      refine awp_ops ?_
      simp (disch := omega) only [amL, amT, sA, sF, ↓reduceIte]
      refine hK10 _ ?_
      refine awp_cond rfl (fun h => ?_) (fun h => ?_)
      ·first
       | exact Bool.noConfusion h
       |skip
        try simp only [decide_eq_true_eq] at h
        refine awp_seq_k fun K11 hK11 => ?_
        refine awp_ops ?_
        simp (disch := omega) only [amL, amT, sA, sF, ↓reduceIte, reduceCtorEq]
        repeat' first | (refine EG_dec (fun h => ?_) (fun h => ?_) <;> simp (disch := omega) only [h, amL, amT, sA, sF, ↓reduceIte, reduceCtorEq]) | (refine EG_cases (fun h => ?_) (fun h => ?_) <;> simp (disch := omega) only [h, amL, amT, sA, sB, sC, sD, sE, sF, sG, sH, sI, sJ, sK, sL, sM, sN, sO, ↓reduceIte, reduceCtorEq]) | (refine EC_intro (by kernel_rfl) rfl (c48 _ _ _) (by first | exact .inl rfl | exact .inr (.inl rfl)) ?_ ; simp (disch := omega) only [amL, sA, sF, ↓reduceIte])
        all_goals
         skip
         refine hK11 _ ?_
         refine awp_ret ?_
         try simp (disch := omega) only [amL, ↓reduceIte]
         all_goals (simp_all [isEntry] <;> omega)
      ·first
       | exact Bool.noConfusion h
       |skip
        try simp only [decide_eq_false_iff_not] at h
        refine awp_seq_k fun K12 hK12 => ?_
        refine awp_ops ?_
        simp (disch := omega) only [amL, amT, sA, sF, ↓reduceIte]
        refine hK12 _ ?_
        refine awp_cond rfl (fun h => ?_) (fun h => ?_)
        ·first
         | exact Bool.noConfusion h
         |skip
          try simp only [decide_eq_true_eq] at h
          refine awp_seq_k fun K13 hK13 => ?_
          refine awp_ops ?_
          simp (disch := omega) only [amL, amT, sA, sF, ↓reduceIte, reduceCtorEq]
          repeat' first | (refine EG_dec (fun h => ?_) (fun h => ?_) <;> simp (disch := omega) only [h, amL, amT, sA, sF, ↓reduceIte, reduceCtorEq]) | (refine EG_cases (fun h => ?_) (fun h => ?_) <;> simp (disch := omega) only [h, amL, amT, sA, sF, ↓reduceIte, reduceCtorEq]) | (refine EC_intro (by kernel_rfl) rfl (c48 _ _ _) (by first | exact .inl rfl | exact .inr (.inl rfl)) ?_ ; simp (disch := omega) only [amL, sA, ↓reduceIte])
          all_goals
           skip
           refine hK13 _ ?_
           refine awp_ret ?_
           try simp (disch := omega) only [amL, ↓reduceIte]
           all_goals (simp_all [isEntry] <;> omega)
        ·first
         | exact Bool.noConfusion h
         |skip
          try simp only [decide_eq_false_iff_not] at h
          refine awp_seq_k fun K14 hK14 => ?_
          refine awp_ops ?_
          simp (disch := omega) only [amL, amT, sA, sF, ↓reduceIte]
          refine hK14 _ ?_
          refine awp_cond rfl (fun h => ?_) (fun h => ?_)
          ·first
           | exact Bool.noConfusion h
           |skip
            try simp only [decide_eq_true_eq] at h
            refine awp_seq_k fun K15 hK15 => ?_
            refine awp_ops ?_
            simp (disch := omega) only [amL, amT, sA, sF, sM, ↓reduceIte, reduceCtorEq]
            repeat' first | (refine EG_dec (fun h => ?_) (fun h => ?_) <;> simp (disch := omega) only [h, amL, amT, sA, sF, sM, ↓reduceIte, reduceCtorEq]) | (refine EG_cases (fun h => ?_) (fun h => ?_) <;> simp (disch := omega) only [h, amL, amT, sA, sB, sC, sD, sE, sF, sG, sH, sI, sJ, sK, sL, sM, sN, sO, ↓reduceIte, reduceCtorEq]) | (refine EC_intro (by kernel_rfl) rfl (c48 _ _ _) (by first | exact .inl rfl | exact .inr (.inl rfl)) ?_ ; simp (disch := omega) only [amL, sA, sF, sM, ↓reduceIte])
            all_goals
             skip
             refine hK15 _ ?_
             refine awp_ret ?_
             try simp (disch := omega) only [amL, sM, ↓reduceIte]
             all_goals (simp_all [isEntry] <;> omega)
          ·first
           | exact Bool.noConfusion h
           |skip
            try simp only [decide_eq_false_iff_not] at h
            refine awp_skip ?_
            refine hK6 _ ?_
            refine awp_seq_k fun K16 hK16 => ?_
            refine awp_ops ?_
            simp (disch := omega) only [amL, sA]
            refine hK16 _ ?_
            refine awp_ret ?_
            try simp (disch := omega) only [amL, ↓reduceIte]
            all_goals (simp_all [isEntry] <;> omega)
end AM.Try
end
/- The reference's small functions, with loops. -/
section
namespace AM.Try
open Go AM AM.Duty
open Nat renaming reduceLT → sA, reduceAdd → sB, reduceMul → sC, reduceSub → sD, reduceLeDiff → sE, reduceEqDiff → sF, reduceBEq → sG
open Int renaming reduceAdd → sH, reduceSub → sI, reduceMul → sJ, reduceLT → sK, reduceLE → sL, reduceNeg → sM, reduceToNat → sN, reduceEq → sO
set_option maxHeartbeats 4000000
def sizes (l : List Entry) : Int := l.foldl (fun n e => n * (e.hi - e.lo + 1)) 1
theorem sizes_take {l : List Entry} {k : Nat} (h : k < l.length) : sizes (l.take (k + 1)) = sizes (l.take k) * ((getE l k).hi - (getE l k).lo + 1) := by
  unfold sizes
  rw [List.take_add_one, List.foldl_append]
  simp [h, getE, List.getD]
def smallE (l : List Entry) : Prop := l.length ≤ 11 ∧ ∀ k, k < l.length → 0 ≤ (getE l k).lo ∧ (getE l k).lo ≤ (getE l k).hi ∧ (getE l k).hi ≤ 50
theorem sizes_bound {l : List Entry} (h : smallE l) : ∀ k, k ≤ l.length → 1 ≤ sizes (l.take k) ∧ sizes (l.take k) ≤ 51 ^ k
  | 0, _ => by simp [sizes]
  | k + 1, hk => by
    obtain ⟨h1, h2⟩ := sizes_bound h k (by omega)
    obtain ⟨h3, h4, h5⟩ := h.2 k (by omega)
    rw [sizes_take (by omega)]
    have h6 : 1 ≤ (getE l k).hi - (getE l k).lo + 1 := by omega
    have h7 : (getE l k).hi - (getE l k).lo + 1 ≤ 51 := by omega
    refine ⟨?_, ?_⟩
    · have := Int.mul_le_mul h1 h6 (by omega) (by omega); simpa using this
    · rw [Int.pow_succ]
      exact Int.mul_le_mul h2 h7 (by omega) (Int.le_of_lt (Int.pow_pos (by decide)))
theorem sizes_lt {l : List Entry} (h : smallE l) {k : Nat} (hk : k ≤ l.length) : 1 ≤ sizes (l.take k) ∧ sizes (l.take k) ≤ 6071163615208263051 := by
  obtain ⟨h1, h2⟩ := sizes_bound h k hk
  refine ⟨h1, Int.le_trans h2 ?_⟩
  have hk' : k ≤ 11 := Nat.le_trans hk h.1
  have : k = 0 ∨ k = 1 ∨ k = 2 ∨ k = 3 ∨ k = 4 ∨ k = 5 ∨ k = 6 ∨ k = 7 ∨ k = 8 ∨ k = 9 ∨ k = 10 ∨ k = 11 := by omega
  rcases this with rfl | rfl | rfl | rfl | rfl | rfl | rfl | rfl | rfl | rfl | rfl | rfl <;> decide
theorem mul_size {x : Int} {e : Entry} (h1 : 1 ≤ x * (e.hi - e.lo + 1)) (h2 : x * (e.hi - e.lo + 1) ≤ 6071163615208263051) : IntKind.i64.wrap (x * (e.hi - e.lo + 1)) = x * (e.hi - e.lo + 1) := wrap64 (by omega) (by omega)
theorem c50 (a : Acc) (hs : smallE a.entries) : PCall Go.Proofs.Try.prog 50 [avA a] (i64 (sizes a.entries)) := by
  refine pcall_mk (v := []) (q := []) (N := 31) (rs := [.tmp 2]) Go.Proofs.Try.func50 rfl rfl rfl rfl rfl ?_
  have hlen := hs.1
  refine awp_seq_k fun K1 hK1 => ?_
  refine awp_ops ?_
  simp (disch := omega) only [amL, sA, ↓reduceIte]
  refine hK1 _ ?_
  refine awp_seq_k fun K2 hK2 => ?_
  refine awp_ops ?_
  simp (disch := omega) only [amL, sA]
  refine hK2 _ ?_
  refine awp_seq_k fun K3 hK3 => ?_
  refine awp_seq_k fun K4 hK4 => ?_
  refine awp_ops ?_
  simp (disch := omega) only [amL, sA]
  refine hK4 _ ?_
  refine awp_block ?_
  skip
  refine awp_loop_k (α := Nat) (fun k => ⟨T [(1, .ptr 1 0), (3, i64 (sizes (a.entries.take k))), (4, i64 k)], O [(1, .cells [i64 a.last, i64 a.interest, i64 a.bond, i64 a.purse, .p (.sl (a.rates.map encR)), .p (.sl (a.entries.map encE))])]⟩) (fun k => a.entries.length - k) (fun k => k ≤ a.entries.length) 0 ?_ ?_ (fun k hx5 K5 hK5 => ?_)
  · simp
  · refine le_mk ?_ ?_ ?_ ?_ <;> (try simp (disch := omega) only [amL, sF, ↓reduceIte]) <;> rfl
  have hb := sizes_lt hs hx5
  refine awp_seq_k fun K6 hK6 => ?_
  refine awp_seq_k fun K7 hK7 => ?_
  refine awp_ops ?_
  simp (disch := omega) only [amL, amT, sA, sF, ↓reduceIte, reduceCtorEq]
  refine hK7 _ ?_
  refine awp_cond rfl (fun h => ?_) (fun h => ?_)
  ·first
   | exact Bool.noConfusion h
   |skip
    try simp only [decide_eq_true_eq] at h
    refine awp_skip ?_
    refine hK6 _ ?_
    refine awp_seq_k fun K8 hK8 => ?_
    refine awp_block ?_
    refine awp_any2 (by kernel_rfl) (by kernel_rfl) ?_
    have hk : k < a.entries.length := by omega
    obtain ⟨e1, e2, e3⟩ := hs.2 k hk
    have hb2 := sizes_lt hs (show k + 1 ≤ a.entries.length by omega)
    rw [sizes_take hk] at hb2
    have hw := mul_size hb2.1 hb2.2
    simp (disch := omega) only [hw, encE_getD, amL, amT, sA, sB, sF, ↓reduceIte, reduceCtorEq]
    refine hK8 _ ?_
    refine awp_ops ?_
    simp (disch := omega) only [amL, amT, sA, sF, ↓reduceIte]
    refine hK5 (k+1) _ ?_ ?_ (le_mk ?_ ?_ ?_ ?_)
    all_goals (try simp (disch := omega) only [amL, sF, ↓reduceIte])
    all_goals first | omega | rw [sizes_take hk]
  ·first
   | exact Bool.noConfusion h
   |skip
    try simp only [decide_eq_false_iff_not] at h
    refine awp_exit ?_
    refine hK3 _ ?_
    refine awp_seq_k fun K9 hK9 => ?_
    refine awp_ops ?_
    simp (disch := omega) only [amL, sA, sF, ↓reduceIte]
    refine hK9 _ ?_
    refine awp_ret ?_
    try simp (disch := omega) only [amL, ↓reduceIte]
    (have e : k = a.entries.length := by omega); subst e; rw [List.take_length]
end AM.Try
end
/- The reference: interest, rates, lists. -/
section
namespace AM.Try
open Go AM AM.Duty
open Nat renaming reduceLT → sA, reduceAdd → sB, reduceMul → sC, reduceSub → sD, reduceLeDiff → sE, reduceEqDiff → sF, reduceBEq → sG
open Int renaming reduceAdd → sH, reduceSub → sI, reduceMul → sJ, reduceLT → sK, reduceLE → sL, reduceNeg → sM, reduceToNat → sN, reduceEq → sO
set_option maxHeartbeats 4000000
def intS (i d : Int) : Int := if d ≤ 0 then 0 else (d * i + 9999) / 10000
theorem mul_bound {d i : Int} (h1 : 0 ≤ d) (h2 : d ≤ 1000000000000) (h3 : 0 ≤ i) (h4 : i ≤ 1000) : 0 ≤ d * i ∧ d * i ≤ 1000000000000000 := by
  refine ⟨Int.mul_nonneg h1 h3, ?_⟩
  have := Int.mul_le_mul h2 h4 h3 (by omega)
  omega
theorem c67 (a : Acc) (d : Int) (hd1 : -1000000000000 ≤ d) (hd2 : d ≤ 1000000000000) (hi1 : 0 ≤ a.interest) (hi2 : a.interest ≤ 1000) : PCall Go.Proofs.Try.prog 67 [avA a, i64 d] (i64 (intS a.interest d)) := by
  refine pcall_mk (v := []) (q := []) (N := 23) (rs := [.tmp 4]) Go.Proofs.Try.func67 rfl rfl rfl rfl rfl ?_
  refine awp_seq_k fun K1 hK1 => ?_
  refine awp_ops ?_
  simp (disch := omega) only [amL, sA, sB, ↓reduceIte]
  refine hK1 _ ?_
  refine awp_seq_k fun K2 hK2 => ?_
  refine awp_seq_k fun K3 hK3 => ?_
  refine awp_ops ?_
  simp (disch := omega) only [amL, amT, sA, sF, ↓reduceIte, reduceCtorEq]
  refine hK3 _ ?_
  refine awp_cond rfl (fun h => ?_) (fun h => ?_)
  ·first
   | exact Bool.noConfusion h
   |skip
    try simp only [decide_eq_true_eq] at h
    refine awp_seq_k fun K4 hK4 => ?_
    refine awp_ops ?_
    simp (disch := omega) only [amL, sA]
    refine hK4 _ ?_
    refine awp_ret ?_
    try simp (disch := omega) only [amL, ↓reduceIte]
    simp [intS]; omega
  ·first
   | exact Bool.noConfusion h
   |skip
    try simp only [decide_eq_false_iff_not] at h
    refine awp_skip ?_
    refine hK2 _ ?_
    refine awp_seq_k fun K5 hK5 => ?_
    refine awp_ops ?_
    have hm := mul_bound (show 0 ≤ d by omega) hd2 hi1 hi2
    simp (disch := omega) only [amL, amT, sA, sF, sO, ↓reduceIte, reduceCtorEq]
    refine hK5 _ ?_
    refine awp_seq_k fun K6 hK6 => ?_
    refine awp_seq_k fun K7 hK7 => ?_
    refine awp_ops ?_
    simp (disch := omega) only [amL, amT, sA, sF, ↓reduceIte, reduceCtorEq]
    refine hK7 _ ?_
    refine awp_cond rfl (fun h => ?_) (fun h => ?_)
    ·first
     | exact Bool.noConfusion h
     |skip
      try simp only [decide_eq_true_eq] at h
      refine awp_ops ?_
      simp (disch := omega) only [amL, amT, sA, sF, ↓reduceIte]
      refine hK6 _ ?_
      refine awp_seq_k fun K8 hK8 => ?_
      refine awp_ops ?_
      simp (disch := omega) only [amL, sA, ↓reduceIte]
      refine hK8 _ ?_
      refine awp_ret ?_
      try simp (disch := omega) only [amL, ↓reduceIte]
      simp [intS]; omega
    ·first
     | exact Bool.noConfusion h
     |skip
      try simp only [decide_eq_false_iff_not] at h
      refine awp_skip ?_
      refine hK6 _ ?_
      refine awp_seq_k fun K9 hK9 => ?_
      refine awp_ops ?_
      simp (disch := omega) only [amL, sA, sF, ↓reduceIte]
      refine hK9 _ ?_
      refine awp_ret ?_
      try simp (disch := omega) only [amL, ↓reduceIte]
      simp [intS]; omega
def rateS (l : List Rate) (day : Int) : Int := l.foldl (fun p r => if r.day ≤ day then r.pence else p) 0
def keepsS (bond : Int) (d : List Int) : Bool := d.all fun n => decide (n ≤ bond)
def planS (last : Int) : Int → List Int → Bool
  | _, [] => true
  | prev, n :: r => decide (prev < n) && (decide (n ≤ last) && planS last n r)
end AM.Try
end
/- The reference: lists and plans. -/
section
namespace AM.Try
open Go AM AM.Duty
open Nat renaming reduceLT → sA, reduceAdd → sB, reduceMul → sC, reduceSub → sD, reduceLeDiff → sE, reduceEqDiff → sF, reduceBEq → sG
open Int renaming reduceAdd → sH, reduceSub → sI, reduceMul → sJ, reduceLT → sK, reduceLE → sL, reduceNeg → sM, reduceToNat → sN, reduceEq → sO
set_option maxHeartbeats 4000000
section
variable {α : Type} {p : α → Bool} {l : List α} {k : Nat} {d : α}
theorem all_step (hk : k < l.length) (h : (l.take k).all p = true) (hp : p (l.getD k d) = true) : (l.take (k + 1)).all p = true := by
  rw [List.take_add_one, List.all_append, h]
  simp [hk, List.getD] at hp ⊢
  exact hp
theorem all_fail (hk : k < l.length) (hp : p (l.getD k d) = false) : l.all p = false := by
  have : l.getD k d ∈ l := by rw [← List.getElem_eq_getD (h := hk)]; exact List.getElem_mem _
  cases h : l.all p with
  | false => rfl
  | true => rw [List.all_eq_true] at h; rw [h _ this] at hp; cases hp
theorem all_done (hk : l.length ≤ k) (h : (l.take k).all p = true) : l.all p = true := by rwa [List.take_of_length_le hk] at h
theorem drop_getD (hk : k < l.length) : l.drop k = l.getD k d :: l.drop (k + 1) := by
  rw [List.drop_eq_getElem_cons hk, List.getElem_eq_getD d]
end
abbrev cA (a : Acc) : List AV := [i64 a.last, i64 a.interest, i64 a.bond, i64 a.purse, .p (.sl (a.rates.map encR)), .p (.sl (a.entries.map encE))]
theorem c74 (a : Acc) (d : List Int) (hl : d.length < 1000000) : PCall Go.Proofs.Try.prog 74 [avA a, isl d] (bl (keepsS a.bond d)) := by
  refine pcall_mk (v := []) (q := []) (N := 19) (rs := [.tmp 4]) Go.Proofs.Try.func74 rfl rfl rfl rfl rfl ?_
  refine awp_seq_k fun K1 hK1 => ?_
  refine awp_ops ?_
  simp (disch := omega) only [amL, sA, sB, ↓reduceIte]
  refine hK1 _ ?_
  refine awp_seq_k fun K2 hK2 => ?_
  refine awp_seq_k fun K3 hK3 => ?_
  refine awp_ops ?_
  simp (disch := omega) only [amL, sA]
  refine hK3 _ ?_
  refine awp_block ?_
  skip
  refine awp_loop_k (α := Nat) (fun k => ⟨T [(1, isl d), (2, .ptr 2 0), (5, i64 k)], O [(2, .cells (cA a))]⟩) (fun k => d.length - k) (fun k => k ≤ d.length ∧ (d.take k).all (fun n => decide (n ≤ a.bond)) = true) 0 ?_ ?_ (fun k hx4 K4 hK4 => ?_)
  · simp
  · refine le_mk ?_ ?_ ?_ ?_ <;> (try simp (disch := omega) only [amL, sF, ↓reduceIte, reduceCtorEq])
  obtain ⟨hk, hn⟩ := hx4
  refine awp_seq_k fun K5 hK5 => ?_
  refine awp_seq_k fun K6 hK6 => ?_
  refine awp_ops ?_
  simp (disch := omega) only [amL, amT, sA, sF, ↓reduceIte]
  refine hK6 _ ?_
  refine awp_cond rfl (fun h => ?_) (fun h => ?_)
  ·first
   | exact Bool.noConfusion h
   |skip
    try simp only [decide_eq_true_eq] at h
    refine awp_skip ?_
    refine hK5 _ ?_
    refine awp_seq_k fun K7 hK7 => ?_
    refine awp_block ?_
    refine awp_seq_k fun K8 hK8 => ?_
    refine awp_any2 (by kernel_rfl) (by kernel_rfl) ?_
    simp (disch := omega) only [amL, amT, sA, sF, ↓reduceIte, reduceCtorEq]
    refine hK8 _ ?_
    refine awp_cond rfl (fun h => ?_) (fun h => ?_)
    ·first
     | exact Bool.noConfusion h
     |skip
      try simp only [decide_eq_true_eq] at h
      refine awp_seq_k fun K9 hK9 => ?_
      refine awp_ops ?_
      simp (disch := omega) only [amL, sA]
      refine hK9 _ ?_
      refine awp_ret ?_
      try simp (disch := omega) only [amL, ↓reduceIte]
      all_goals first | (rw [keepsS, all_fail (d := 0) (k := k) (by omega) (by simpa using h)]) | (rw [keepsS, all_done (by omega) hn])
    ·first
     | exact Bool.noConfusion h
     |skip
      try simp only [decide_eq_false_iff_not] at h
      refine awp_skip ?_
      refine hK7 _ ?_
      refine awp_ops ?_
      simp (disch := omega) only [amL, amT, sA, sF, ↓reduceIte]
      refine hK4 (k+1) _ ?_ ?_ (le_mk ?_ ?_ ?_ ?_)
      all_goals (try simp (disch := omega) only [amL, sF, ↓reduceIte])
      all_goals first | omega | exact ⟨by omega, all_step (d := 0) (by omega) hn (by simpa using h)⟩
  ·first
   | exact Bool.noConfusion h
   |skip
    try simp only [decide_eq_false_iff_not] at h
    refine awp_exit ?_
    refine hK2 _ ?_
    refine awp_seq_k fun K10 hK10 => ?_
    refine awp_ops ?_
    simp (disch := omega) only [amL, sA]
    refine hK10 _ ?_
    refine awp_ret ?_
    try simp (disch := omega) only [amL, ↓reduceIte]
    all_goals first | (rw [keepsS, all_fail (d := 0) (k := k) (by omega) (by simpa using h)]) | (rw [keepsS, all_done (by omega) hn])
def listedS : List Entry → List Int → Bool
  | [], [] => true
  | e :: es, n :: ns => inB n e.lo e.hi && listedS es ns
  | _, _ => false
theorem listed_step {es : List Entry} {t : List Int} {k : Nat} (h1 : k < es.length) (h2 : k < t.length) : listedS (es.drop k) (t.drop k) = (inB (t.getD k 0) (getE es k).lo (getE es k).hi && listedS (es.drop (k + 1)) (t.drop (k + 1))) := by
  rw [drop_getD (d := default) h1, drop_getD (d := 0) h2]; rfl
theorem listed_end {es : List Entry} {t : List Int} {k : Nat} (h : ¬ (k < es.length ∧ k < t.length)) (h1 : k ≤ es.length) (h2 : k ≤ t.length) : listedS (es.drop k) (t.drop k) = decide ((t.length : Int) = es.length) := by
  by_cases he : k < es.length
  · have : k = t.length := by omega
    subst this
    rw [drop_getD (d := default) he, List.drop_length]
    have : ¬ ((t.length : Int) = es.length) := by omega
    simp [listedS, this]
  · have : k = es.length := by omega
    subst this
    rw [List.drop_length]
    by_cases ht : es.length < t.length
    · rw [drop_getD (d := 0) ht]
      have : ¬ ((t.length : Int) = es.length) := by omega
      simp [listedS, this]
    · have : es.length = t.length := by omega
      rw [this, List.drop_length]
      simp [listedS]
theorem c26 (a : Acc) (t : List Int) (hl : t.length < 1000000) (_ : a.entries.length < 1000000) : PCall Go.Proofs.Try.prog 26 [avA a, isl t] (bl (listedS a.entries t)) := by
  refine pcall_mk (v := []) (q := []) (N := 45) (rs := [.tmp 4]) Go.Proofs.Try.func26 rfl rfl rfl rfl rfl ?_
  refine awp_seq_k fun K1 hK1 => ?_
  refine awp_ops ?_
  simp (disch := omega) only [amL, sA, sB, ↓reduceIte]
  refine hK1 _ ?_
  refine awp_seq_k fun K2 hK2 => ?_
  refine awp_seq_k fun K3 hK3 => ?_
  refine awp_ops ?_
  simp (disch := omega) only [amL, sA]
  refine hK3 _ ?_
  refine awp_block ?_
  skip
  refine awp_loop_k (α := Nat) (fun k => ⟨T [(1, isl t), (2, .ptr 2 0), (5, i64 k)], O [(2, .cells (cA a))]⟩) (fun k => t.length - k) (fun k => k ≤ t.length ∧ k ≤ a.entries.length ∧ listedS (a.entries.drop k) (t.drop k) = listedS a.entries t) 0 ?_ ?_ (fun k hx4 K4 hK4 => ?_)
  · simp
  · refine le_mk ?_ ?_ ?_ ?_ <;> (try simp (disch := omega) only [amL, sF, ↓reduceIte, reduceCtorEq])
  obtain ⟨hk, hk2, hn⟩ := hx4
  refine awp_seq_k fun K5 hK5 => ?_
  refine awp_seq_k fun K6 hK6 => ?_
  refine awp_ops ?_
  simp (disch := omega) only [amL, amT, sA, sF, ↓reduceIte]
  repeat' first | (refine EG_dec (fun h => ?_) (fun h => ?_) <;> simp (disch := omega) only [h, amL, amT, sA, sF, ↓reduceIte, reduceCtorEq]) | (refine EG_cases (fun h => ?_) (fun h => ?_) <;> simp (disch := omega) only [h, encE_getD, amL, amT, sA, sB, sC, sD, sE, sF, sG, sH, sI, sJ, sK, sL, sM, sN, sO, ↓reduceIte, reduceCtorEq])
  all_goals
   skip
   refine hK6 _ ?_
   refine awp_cond rfl (fun h => ?_) (fun h => ?_)
   ·first
    | exact Bool.noConfusion h
    |skip
     try simp only [decide_eq_true_eq] at h
     refine awp_skip ?_
     refine hK5 _ ?_
     refine awp_seq_k fun K7 hK7 => ?_
     refine awp_block ?_
     refine awp_seq_k fun K8 hK8 => ?_
     refine awp_any2 (by kernel_rfl) (by kernel_rfl) ?_
     simp (disch := omega) only [encE_getD, amL, amT, sA, sB, sF, ↓reduceIte, reduceCtorEq]
     repeat' first | (refine EC_intro (by kernel_rfl) rfl (c48 _ _ _) (by first | exact .inl rfl | exact .inr (.inl rfl)) ?_ ; simp (disch := omega) only [amL, sA, ↓reduceIte])
     refine hK8 _ ?_
     refine awp_cond rfl (fun h => ?_) (fun h => ?_)
     ·first
      | exact Bool.noConfusion h
      |skip
       try simp only [Bool.not_eq_true'] at h
       refine awp_seq_k fun K9 hK9 => ?_
       refine awp_ops ?_
       simp (disch := omega) only [amL, sA]
       refine hK9 _ ?_
       refine awp_ret ?_
       try simp (disch := omega) only [amL, ↓reduceIte]
       all_goals first | (rw [← hn, listed_step (by omega) (by omega), h]; rfl) | (rw [← hn, listed_end (by omega) (by omega) (by omega)])
     ·first
      | exact Bool.noConfusion h
      |skip
       try simp only [Bool.not_eq_false'] at h
       refine awp_skip ?_
       refine hK7 _ ?_
       refine awp_ops ?_
       simp (disch := omega) only [amL, amT, sA, sF, ↓reduceIte]
       refine hK4 (k+1) _ ?_ ?_ (le_mk ?_ ?_ ?_ ?_)
       all_goals (try simp (disch := omega) only [amL, sF, ↓reduceIte])
       all_goals first | omega | exact ⟨by omega, by omega, by rw [listed_step (by omega) (by omega), h] at hn; simpa using hn⟩
   ·first
    | exact Bool.noConfusion h
    |skip
     try simp only [decide_eq_false_iff_not] at h
     refine awp_exit ?_
     refine hK2 _ ?_
     refine awp_seq_k fun K10 hK10 => ?_
     refine awp_ops ?_
     simp (disch := omega) only [amL, amT, sA, sF, ↓reduceIte, reduceCtorEq]
     refine hK10 _ ?_
     refine awp_ret ?_
     try simp (disch := omega) only [amL, ↓reduceIte]
     all_goals first | (rw [← hn, listed_step (by omega) (by omega), h]; rfl) | (rw [← hn, listed_end (by omega) (by omega) (by omega)])
def beforeS : List Int → List Int → Bool
  | [], [] => false
  | [], _ :: _ => true
  | _ :: _, [] => false
  | a :: r, b :: s => if a = b then beforeS r s else decide (a < b)
theorem before_step {a b : List Int} {k : Nat} (h1 : k < a.length) (h2 : k < b.length) : beforeS (a.drop k) (b.drop k) = if a.getD k 0 = b.getD k 0 then beforeS (a.drop (k + 1)) (b.drop (k + 1)) else decide (a.getD k 0 < b.getD k 0) := by
  rw [drop_getD (d := 0) h1, drop_getD (d := 0) h2]; rfl
theorem before_end {a b : List Int} {k : Nat} (h : ¬ (k < a.length ∧ k < b.length)) (h1 : k ≤ a.length) (h2 : k ≤ b.length) : beforeS (a.drop k) (b.drop k) = decide ((a.length : Int) < b.length) := by
  by_cases he : k < a.length
  · have : k = b.length := by omega
    subst this
    rw [drop_getD (d := 0) he, List.drop_length]
    have : ¬ ((a.length : Int) < b.length) := by omega
    simp [beforeS]; omega
  · have : k = a.length := by omega
    subst this
    rw [List.drop_length]
    by_cases ht : a.length < b.length
    · rw [drop_getD (d := 0) ht]
      simp [beforeS, ht]
    · have : a.length = b.length := by omega
      rw [this, List.drop_length]
      simp [beforeS]
theorem c69 (a b : List Int) (ha : a.length < 1000000) (_ : b.length < 1000000) : PCall Go.Proofs.Try.prog 69 [isl a, isl b] (bl (beforeS a b)) := by
  refine pcall_mk (v := []) (q := []) (N := 41) (rs := [.tmp 4]) Go.Proofs.Try.func69 rfl rfl rfl rfl rfl ?_
  refine awp_seq_k fun K1 hK1 => ?_
  refine awp_ops ?_
  simp (disch := omega) only [amL, sA, sB]
  refine hK1 _ ?_
  refine awp_seq_k fun K2 hK2 => ?_
  refine awp_seq_k fun K3 hK3 => ?_
  refine awp_ops ?_
  simp (disch := omega) only [amL, sA]
  refine hK3 _ ?_
  refine awp_block ?_
  skip
  refine awp_loop_k (α := Nat) (fun k => ⟨T [(0, isl a), (1, isl b), (5, i64 k)], O []⟩) (fun k => a.length - k) (fun k => k ≤ a.length ∧ k ≤ b.length ∧ beforeS (a.drop k) (b.drop k) = beforeS a b) 0 ?_ ?_ (fun k hx4 K4 hK4 => ?_)
  · simp
  · refine le_mk ?_ ?_ ?_ ?_ <;> (try simp (disch := omega) only [amL, sF, ↓reduceIte, reduceCtorEq])
  obtain ⟨hk, hk2, hn⟩ := hx4
  refine awp_seq_k fun K5 hK5 => ?_
  refine awp_seq_k fun K6 hK6 => ?_
  refine awp_ops ?_
  simp (disch := omega) only [amL, amT, sA, sF, ↓reduceIte, reduceCtorEq]
  repeat' first | (refine EG_dec (fun h => ?_) (fun h => ?_) <;> simp (disch := omega) only [h, amL, amT, sA, sF, ↓reduceIte, reduceCtorEq]) | (refine EG_cases (fun h => ?_) (fun h => ?_) <;> simp (disch := omega) only [h, amL, amT, sA, sB, sC, sD, sE, sF, sG, sH, sI, sJ, sK, sL, sM, sN, sO, ↓reduceIte, reduceCtorEq])
  all_goals
   skip
   refine hK6 _ ?_
   refine awp_cond rfl (fun h => ?_) (fun h => ?_)
   ·first
    | exact Bool.noConfusion h
    |skip
     try simp only [decide_eq_true_eq] at h
     refine awp_skip ?_
     refine hK5 _ ?_
     refine awp_seq_k fun K7 hK7 => ?_
     refine awp_block ?_
     refine awp_seq_k fun K8 hK8 => ?_
     refine awp_any2 (by kernel_rfl) (by kernel_rfl) ?_
     simp (disch := omega) only [amL, amT, sA, sF, ↓reduceIte, reduceCtorEq]
     refine hK8 _ ?_
     refine awp_cond rfl (fun h => ?_) (fun h => ?_)
     ·first
      | exact Bool.noConfusion h
      |skip
       try simp only [Bool.not_eq_true', decide_eq_false_iff_not, decide_not] at h
       refine awp_seq_k fun K9 hK9 => ?_
       refine awp_any2 (by kernel_rfl) (by kernel_rfl) ?_
       simp (disch := omega) only [amL, amT, sA, sF, ↓reduceIte, reduceCtorEq]
       refine hK9 _ ?_
       refine awp_ret ?_
       try simp (disch := omega) only [amL, ↓reduceIte]
       all_goals first | (rw [← hn, before_step (by omega) (by omega), if_neg (by omega)]) | (rw [← hn, before_end (by omega) (by omega) (by omega)])
     ·first
      | exact Bool.noConfusion h
      |skip
       try simp only [decide_eq_true_eq, Bool.not_eq_false', decide_not] at h
       refine awp_skip ?_
       refine hK7 _ ?_
       refine awp_ops ?_
       simp (disch := omega) only [amL, amT, sA, sF, ↓reduceIte, reduceCtorEq]
       refine hK4 (k+1) _ ?_ ?_ (le_mk ?_ ?_ ?_ ?_)
       all_goals (try simp (disch := omega) only [amL, sF, ↓reduceIte, reduceCtorEq])
       all_goals first | omega | exact ⟨by omega, by omega, by rw [before_step (by omega) (by omega), if_pos (by omega)] at hn; exact hn⟩
   ·first
    | exact Bool.noConfusion h
    |skip
     try simp only [decide_eq_false_iff_not] at h
     refine awp_exit ?_
     refine hK2 _ ?_
     refine awp_seq_k fun K10 hK10 => ?_
     refine awp_ops ?_
     simp (disch := omega) only [amL, amT, sA, sF, ↓reduceIte, reduceCtorEq]
     refine hK10 _ ?_
     refine awp_ret ?_
     try simp (disch := omega) only [amL, ↓reduceIte]
     all_goals first | (rw [← hn, before_step (by omega) (by omega), if_neg (by omega)]) | (rw [← hn, before_end (by omega) (by omega) (by omega)])
def shorterS (a b : List Int) : Bool := decide (a.length < b.length) || (decide (a.length = b.length) && beforeS a b)
def soonerS (a b : List Int) : Bool := decide (a.length < b.length) || (decide (a.length = b.length) && beforeS b a)
theorem c57 (a b : List Int) (ha : a.length < 1000000) (hb : b.length < 1000000) : PCall Go.Proofs.Try.prog 57 [isl a, isl b] (bl (shorterS a b)) := by
  refine pcall_mk (v := []) (q := []) (N := 22) (rs := [.tmp 4]) Go.Proofs.Try.func57 rfl rfl rfl rfl rfl ?_
  refine awp_seq_k fun K1 hK1 => ?_
  refine awp_ops ?_
  simp (disch := omega) only [amL, sA, sB]
  refine hK1 _ ?_
  refine awp_seq_k fun K2 hK2 => ?_
  refine awp_ops ?_
  simp (disch := omega) only [amL, amT, sA, sF, ↓reduceIte, reduceCtorEq]
  repeat' first | (refine EG_dec (fun h => ?_) (fun h => ?_) <;> simp (disch := omega) only [h, amL, amT, sA, sF, ↓reduceIte, reduceCtorEq]) | (refine EG_cases (fun h => ?_) (fun h => ?_) <;> simp (disch := omega) only [h, amL, amT, sA, sB, sC, sD, sE, sF, sG, sH, sI, sJ, sK, sL, sM, sN, sO, ↓reduceIte, reduceCtorEq]) | (refine EC_intro (by kernel_rfl) rfl (c69 _ _ ha hb) (by first | exact .inl rfl | exact .inr (.inl rfl)) ?_ ; simp (disch := omega) only [amL, sA, sF, ↓reduceIte])
  all_goals
   skip
   refine hK2 _ ?_
   refine awp_ret ?_
   try simp (disch := omega) only [amL, ↓reduceIte]
   all_goals first | (have e : a.length < b.length := by omega); simp [shorterS, e]; done | (have e : ¬ a.length < b.length := by omega); (have e2 : a.length = b.length := by omega); simp [shorterS, e2]; done | (have e : ¬ a.length < b.length := by omega); (have e2 : ¬ a.length = b.length := by omega); simp [shorterS, e, e2]; done
theorem c56 (a b : List Int) (ha : a.length < 1000000) (hb : b.length < 1000000) : PCall Go.Proofs.Try.prog 56 [isl a, isl b] (bl (soonerS a b)) := by
  refine pcall_mk (v := []) (q := []) (N := 22) (rs := [.tmp 4]) Go.Proofs.Try.func56 rfl rfl rfl rfl rfl ?_
  refine awp_seq_k fun K1 hK1 => ?_
  refine awp_ops ?_
  simp (disch := omega) only [amL, sA, sB]
  refine hK1 _ ?_
  refine awp_seq_k fun K2 hK2 => ?_
  refine awp_ops ?_
  simp (disch := omega) only [amL, amT, sA, sF, ↓reduceIte, reduceCtorEq]
  repeat' first | (refine EG_dec (fun h => ?_) (fun h => ?_) <;> simp (disch := omega) only [h, amL, amT, sA, sF, ↓reduceIte, reduceCtorEq]) | (refine EG_cases (fun h => ?_) (fun h => ?_) <;> simp (disch := omega) only [h, amL, amT, sA, sB, sC, sD, sE, sF, sG, sH, sI, sJ, sK, sL, sM, sN, sO, ↓reduceIte, reduceCtorEq]) | (refine EC_intro (by kernel_rfl) rfl (c69 _ _ hb ha) (by first | exact .inl rfl | exact .inr (.inl rfl)) ?_ ; simp (disch := omega) only [amL, sA, sF, ↓reduceIte])
  all_goals
   skip
   refine hK2 _ ?_
   refine awp_ret ?_
   try simp (disch := omega) only [amL, ↓reduceIte]
   all_goals first | (have e : a.length < b.length := by omega); simp [soonerS, e]; done | (have e : ¬ a.length < b.length := by omega); (have e2 : a.length = b.length := by omega); simp [soonerS, e2]; done | (have e : ¬ a.length < b.length := by omega); (have e2 : ¬ a.length = b.length := by omega); simp [soonerS, e, e2]; done
theorem before_same : ∀ (a b : List Int), a.length = b.length → (!beforeS a b && !beforeS b a) = decide (a = b)
  | [], [], _ => by simp [beforeS]
  | x :: a, y :: b, h => by
    have ih := before_same a b (by simpa using h)
    simp only [beforeS]
    by_cases e : x = y
    · subst e; simp [ih]
    · have e' : ¬ y = x := fun h => e h.symm
      simp only [e, e', if_false, List.cons.injEq, false_and, decide_false]
      by_cases hl : x < y
      · simp [hl]
      · have : y < x := by omega
        simp [this]
  | [], _ :: _, h => by simp at h
  | _ :: _, [], h => by simp at h
theorem c28 (a b : List Int) (ha : a.length < 1000000) (hb : b.length < 1000000) : PCall Go.Proofs.Try.prog 28 [isl a, isl b] (bl (decide (a = b))) := by
  refine pcall_mk (v := []) (q := []) (N := 22) (rs := [.tmp 4]) Go.Proofs.Try.func28 rfl rfl rfl rfl rfl ?_
  refine awp_seq_k fun K1 hK1 => ?_
  refine awp_ops ?_
  simp (disch := omega) only [amL, sA, sB]
  refine hK1 _ ?_
  refine awp_seq_k fun K2 hK2 => ?_
  refine awp_ops ?_
  simp (disch := omega) only [amL, amT, sA, sF, ↓reduceIte, reduceCtorEq]
  repeat' first | (refine EG_dec (fun h => ?_) (fun h => ?_) <;> simp (disch := omega) only [h, amL, sA, sF, ↓reduceIte, reduceCtorEq]) | (refine EG_cases (fun h => ?_) (fun h => ?_) <;> simp (disch := omega) only [h, amL, sA, sF, ↓reduceIte, reduceCtorEq]) | (refine EC_intro (by kernel_rfl) rfl (by first | exact c69 a b ha hb | exact c69 b a hb ha) (by first | exact .inl rfl | exact .inr (.inl rfl)) ?_ ; simp (disch := omega) only [amL, sA, sF, ↓reduceIte])
  all_goals
   skip
   refine hK2 _ ?_
   refine awp_ret ?_
   try simp (disch := omega) only [amL, ↓reduceIte]
   all_goals first | (have e := before_same a b (by omega)); rw [h, Bool.true_and] at e; rw [e]; done | (have e := before_same a b (by omega)); rw [h, Bool.false_and] at e; rw [← e]; done | (have e : ¬ a = b := by rintro rfl; exact h rfl); simp [e]; done
end AM.Try
end
/- The reference: rates, plans, faults. -/
section
namespace AM.Try
open Go AM AM.Duty
open Nat renaming reduceLT → sA, reduceAdd → sB, reduceMul → sC, reduceSub → sD, reduceLeDiff → sE, reduceEqDiff → sF, reduceBEq → sG
open Int renaming reduceAdd → sH, reduceSub → sI, reduceMul → sJ, reduceLT → sK, reduceLE → sL, reduceNeg → sM, reduceToNat → sN, reduceEq → sO
set_option maxHeartbeats 4000000
def findR : List Rate → Int → Option Int
  | [], _ => none
  | r :: l, d => if r.day = d then some r.pence else findR l d
theorem findR_step {l : List Rate} {k : Nat} {d : Int} (h : k < l.length) : findR (l.drop k) d = if (getR l k).day = d then some (getR l k).pence else findR (l.drop (k + 1)) d := by
  rw [drop_getD (d := default) h]; rfl
theorem findR_end {l : List Rate} {k : Nat} {d : Int} (h : l.length ≤ k) : findR (l.drop k) d = none := by rw [List.drop_of_length_le h]; rfl
def ratedX (l : List Rate) : Nat → Int
  | 0 => 0
  | x + 1 => (findR l x).getD (ratedX l x)
theorem ratedX_succ {l : List Rate} {x : Nat} (h : 0 < x) : ratedX l x = (findR l ((x : Int) - 1)).getD (ratedX l (x - 1)) := by
  cases x with
  | zero => omega
  | succ x => simp [ratedX]
theorem c54 (a : Acc) (day : Nat) (hd : day < 1000000) (hl : a.rates.length < 1000000) : PCall Go.Proofs.Try.prog 54 [avA a, i64 day] (i64 (ratedX a.rates (day + 1))) := by
  refine pcall_mk (v := []) (q := []) (N := 33) (rs := [.tmp 4]) Go.Proofs.Try.func54 rfl rfl rfl rfl rfl ?_
  refine awp_seq_k fun K1 hK1 => ?_
  refine awp_ops ?_
  simp (disch := omega) only [amL, sA, sB, ↓reduceIte]
  refine hK1 _ ?_
  refine awp_seq_k fun K2 hK2 => ?_
  refine awp_seq_k fun K3 hK3 => ?_
  refine awp_ops ?_
  simp (disch := omega) only [amL, sA, sF, ↓reduceIte, reduceCtorEq]
  refine hK3 _ ?_
  refine awp_block ?_
  skip
  refine awp_loop_k (α := Nat) (fun x => ⟨T [(1, i64 day), (2, .ptr 2 0), (5, i64 ((x : Int) - 1))], O [(2, .cells (cA a))]⟩) (fun x => x) (fun x => x ≤ day + 1 ∧ ratedX a.rates x = ratedX a.rates (day + 1)) (day + 1) ?_ ?_ (fun x hx4 K4 hK4 => ?_)
  · simp
  · refine le_mk ?_ ?_ ?_ ?_ <;> (try simp (disch := omega) only [amL, sF, ↓reduceIte, reduceCtorEq]) <;> (first | done | (congr 3; omega))
  obtain ⟨hx, hr⟩ := hx4
  refine awp_seq_k fun K5 hK5 => ?_
  refine awp_seq_k fun K6 hK6 => ?_
  refine awp_ops ?_
  simp (disch := omega) only [amL, amT, sA, sF, ↓reduceIte]
  refine hK6 _ ?_
  refine awp_cond rfl (fun h => ?_) (fun h => ?_)
  ·first
   | exact Bool.noConfusion h
   |skip
    try simp only [decide_eq_true_eq] at h
    refine awp_skip ?_
    refine hK5 _ ?_
    refine awp_seq_k fun K7 hK7 => ?_
    refine awp_block ?_
    refine awp_seq_k fun K8 hK8 => ?_
    refine awp_ops ?_
    simp (disch := omega) only [amL, sA]
    refine hK8 _ ?_
    refine awp_block ?_
    skip
    refine awp_loop_k (α := Nat) (fun k => ⟨T [(1, i64 day), (2, .ptr 2 0), (5, i64 ((x : Int) - 1)), (6, i64 k)], O [(2, .cells (cA a))]⟩) (fun k => a.rates.length - k) (fun k => k ≤ a.rates.length ∧ findR (a.rates.drop k) ((x : Int) - 1) = findR a.rates ((x : Int) - 1)) 0 ?_ ?_ (fun k hx9 K9 hK9 => ?_)
    · simp
    · refine le_mk ?_ ?_ ?_ ?_ <;> (try simp (disch := omega) only [amL, sF, ↓reduceIte])
    obtain ⟨hk, hn⟩ := hx9
    refine awp_seq_k fun K10 hK10 => ?_
    refine awp_seq_k fun K11 hK11 => ?_
    refine awp_ops ?_
    simp (disch := omega) only [amL, amT, sA, sF, ↓reduceIte, reduceCtorEq]
    refine hK11 _ ?_
    refine awp_cond rfl (fun h => ?_) (fun h => ?_)
    ·first
     | exact Bool.noConfusion h
     |skip
      try simp only [decide_eq_true_eq] at h
      refine awp_skip ?_
      refine hK10 _ ?_
      refine awp_seq_k fun K12 hK12 => ?_
      refine awp_block ?_
      refine awp_seq_k fun K13 hK13 => ?_
      refine awp_ops ?_
      simp (disch := omega) only [encR_getD, amL, amT, sA, sB, sF, ↓reduceIte, reduceCtorEq]
      refine hK13 _ ?_
      refine awp_cond rfl (fun h => ?_) (fun h => ?_)
      ·first
       | exact Bool.noConfusion h
       |skip
        try simp only [decide_eq_true_eq] at h
        refine awp_seq_k fun K14 hK14 => ?_
        refine awp_ops ?_
        simp (disch := omega) only [encR_getD, amL, amT, sA, sB, sF, ↓reduceIte, reduceCtorEq]
        refine hK14 _ ?_
        refine awp_ret ?_
        try simp (disch := omega) only [amL, ↓reduceIte]
        all_goals first | (rw [← hr, ratedX_succ (by omega), ← hn, findR_step (by omega), if_pos h]; rfl) | (have e : x = 0 := by omega); subst e; rw [← hr]; rfl
      ·first
       | exact Bool.noConfusion h
       |skip
        try simp only [decide_eq_false_iff_not] at h
        refine awp_skip ?_
        refine hK12 _ ?_
        refine awp_ops ?_
        simp (disch := omega) only [amL, amT, sA, sF, ↓reduceIte]
        refine hK9 (k+1) _ ?_ ?_ (le_mk ?_ ?_ ?_ ?_)
        all_goals (try simp (disch := omega) only [amL, sF, ↓reduceIte])
        all_goals first | omega | exact ⟨by omega, by rw [findR_step (by omega), if_neg h] at hn; exact hn⟩ | (omega)
    ·first
     | exact Bool.noConfusion h
     |skip
      try simp only [decide_eq_false_iff_not] at h
      refine awp_exit ?_
      refine hK7 _ ?_
      refine awp_ops ?_
      simp (disch := omega) only [amL, amT, sA, sF, ↓reduceIte]
      refine hK4 (x - 1) _ ?_ ?_ (le_mk ?_ ?_ ?_ ?_)
      all_goals (try simp (disch := omega) only [amL, sF, ↓reduceIte])
      all_goals first | omega | exact ⟨by omega, by rw [ratedX_succ (by omega)] at hr; rw [findR_end (k := k) (by omega)] at hn; rw [← hn] at hr; exact hr⟩ | (congr 3; omega) | (omega)
  ·first
   | exact Bool.noConfusion h
   |skip
    try simp only [decide_eq_false_iff_not] at h
    refine awp_exit ?_
    refine hK2 _ ?_
    refine awp_seq_k fun K15 hK15 => ?_
    refine awp_ops ?_
    simp (disch := omega) only [amL, sA]
    refine hK15 _ ?_
    refine awp_ret ?_
    try simp (disch := omega) only [amL, ↓reduceIte]
    all_goals first | (rw [← hr, ratedX_succ (by omega), ← hn, findR_step (by omega), if_pos h]; rfl) | (have e : x = 0 := by omega); subst e; rw [← hr]; rfl
end AM.Try
end
/- The reference: plans, faults. -/
section
namespace AM.Try
open Go AM AM.Duty
open Nat renaming reduceLT → sA, reduceAdd → sB, reduceMul → sC, reduceSub → sD, reduceLeDiff → sE, reduceEqDiff → sF, reduceBEq → sG
open Int renaming reduceAdd → sH, reduceSub → sI, reduceMul → sJ, reduceLT → sK, reduceLE → sL, reduceNeg → sM, reduceToNat → sN, reduceEq → sO
set_option maxHeartbeats 4000000
theorem toNat_pred (k : Nat) : ((k : Int) - 1).toNat = k - 1 := by omega
def ratesS (last : Int) : Int → List Rate → Bool
  | _, [] => true
  | prev, r :: l => inB r.day 0 last && (inB r.pence 0 100 && (decide (prev < r.day) && ratesS last r.day l))
def prevR (l : List Rate) (k : Nat) : Int := if k = 0 then -1 else (getR l (k - 1)).day
theorem rates_step {last : Int} {l : List Rate} {k : Nat} (h : k < l.length) : ratesS last (prevR l k) (l.drop k) = (inB (getR l k).day 0 last && (inB (getR l k).pence 0 100 && (decide (prevR l k < (getR l k).day) && ratesS last (prevR l (k + 1)) (l.drop (k + 1))))) := by
  rw [drop_getD (d := default) h]; rfl
theorem rates_end {last p : Int} {l : List Rate} {k : Nat} (h : l.length ≤ k) : ratesS last p (l.drop k) = true := by rw [List.drop_of_length_le h]; rfl
def faultS (a : Acc) : Int :=
  if 4 < a.rates.length ∨ 8 < a.entries.length then 3
  else if (inB a.last 0 11 && (inB a.interest 0 200 && (inB a.bond 0 100000 && inB a.purse 0 100000))) = false then 1
  else if ratesS a.last (-1) a.rates = false then 1
  else if a.entries.all (isEntry a.last) = false then 1
  else if 1000 < sizes a.entries then 3 else 0
theorem isEntry_small {last : Int} {e : Entry} (h : isEntry last e = true) : 0 ≤ e.lo ∧ e.lo ≤ e.hi ∧ e.hi ≤ 50 := by
  unfold isEntry at h
  simp only [inB, Bool.and_eq_true, decide_eq_true_eq] at h
  obtain ⟨_, h⟩ := h
  split at h
  · simp at h; omega
  · split at h
    · simp at h; omega
    · split at h
      · simp at h; omega
      · split at h
        · simp at h; omega
        · simp at h
theorem small_of_all {last : Int} {l : List Entry} (hl : l.length ≤ 11) (h : l.all (isEntry last) = true) : smallE l := by
  refine ⟨hl, fun k hk => isEntry_small (last := last) ?_⟩
  rw [List.all_eq_true] at h
  apply h
  show l.getD k default ∈ l
  rw [← List.getElem_eq_getD (h := hk)]; exact List.getElem_mem _
theorem rates_next {last : Int} {l : List Rate} {k : Nat} {R : Bool} (h : k < l.length) (h1 : inB (getR l k).day 0 last = true) (h2 : inB (getR l k).pence 0 100 = true) (h3 : 0 < k → ¬ (getR l k).day ≤ (getR l (k - 1)).day)
    (hr : ratesS last (prevR l k) (l.drop k) = R) : ratesS last (prevR l (k + 1)) (l.drop (k + 1)) = R := by
  rw [rates_step h, h1, h2] at hr
  have : prevR l k < (getR l k).day := by
    unfold prevR
    split
    · have h0 := h1; simp only [inB, Bool.and_eq_true, decide_eq_true_eq] at h0; omega
    · have := h3 (by omega); omega
  rw [decide_eq_true this, Bool.true_and, Bool.true_and, Bool.true_and] at hr
  exact hr
theorem rates_bad {last : Int} {l : List Rate} {k : Nat} {R : Bool} (h : k < l.length) (hb : inB (getR l k).day 0 last = false ∨ inB (getR l k).pence 0 100 = false ∨ (0 < k ∧ (getR l k).day ≤ (getR l (k - 1)).day))
    (hr : ratesS last (prevR l k) (l.drop k) = R) : R = false := by
  rw [rates_step h] at hr
  rcases hb with hb | hb | ⟨hb, hc⟩
  · rw [← hr, hb]; rfl
  · rw [← hr, hb]; simp only [Bool.false_and, Bool.and_false]
  · have : ¬ prevR l k < (getR l k).day := by
      unfold prevR
      rw [if_neg (by omega)]; omega
    rw [← hr, decide_eq_false this]; simp only [Bool.false_and, Bool.and_false]
theorem c61 (a : Acc) (hl1 : a.rates.length < 1000000) (hl2 : a.entries.length < 1000000) : PCall Go.Proofs.Try.prog 61 [avA a] (i64 (faultS a)) := by
  refine pcall_mk (v := []) (q := []) (N := 102) (rs := [.tmp 2]) Go.Proofs.Try.func61 rfl rfl rfl rfl rfl ?_
  refine awp_seq_k fun K1 hK1 => ?_
  refine awp_ops ?_
  simp (disch := omega) only [amL, sA, ↓reduceIte]
  refine hK1 _ ?_
  refine awp_seq_k fun K2 hK2 => ?_
  refine awp_seq_k fun K3 hK3 => ?_
  refine awp_ops ?_
  simp (disch := omega) only [amL, amT, sA, sF, ↓reduceIte, reduceCtorEq]
  repeat' first | (refine EG_dec (fun h => ?_) (fun h => ?_) <;> simp (disch := omega) only [h, amL, amT, sA, sF, ↓reduceIte, reduceCtorEq]) | (refine EG_cases (fun h => ?_) (fun h => ?_) <;> simp (disch := omega) only [h, encR_getD, encE_getD, toNat_pred, amL, amT, sA, sB, sC, sD, sE, sF, sG, sH, sI, sJ, sK, sL, sM, sN, sO, ↓reduceIte, reduceCtorEq])
  all_goals
   skip
   refine hK3 _ ?_
   refine awp_cond rfl (fun h => ?_) (fun h => ?_)
   ·first
    | exact Bool.noConfusion h
    |skip
     try simp only [decide_eq_true_eq] at h
     refine awp_seq_k fun K4 hK4 => ?_
     refine awp_ops ?_
     simp (disch := omega) only [amL, sA]
     refine hK4 _ ?_
     refine awp_ret ?_
     try simp (disch := omega) only [amL, ↓reduceIte]
     all_goals first | rw [faultS, if_pos (by omega)]; done | rw [faultS, if_neg (by omega), if_neg (by simp_all), if_neg (by rw [← hr, rates_end (by omega)]; simp), if_neg (by rw [all_done (by omega) hn]; simp), if_pos h]; done | rw [faultS, if_neg (by omega), if_neg (by simp_all), if_neg (by rw [← hr, rates_end (by omega)]; simp), if_neg (by rw [all_done (by omega) hn]; simp), if_neg h]; done | rw [faultS, if_neg (by omega), if_neg (by simp_all), if_neg (by rw [← hr, rates_end (by omega)]; simp), if_pos (all_fail (d := default) (k := j) (by omega) h)]; done | rw [faultS, if_neg (by omega), if_neg (by simp_all), if_pos (rates_bad (k := k) (by omega) (by first | (left; simp_all; done) | (right; left; simp_all; done) | (right; right; omega)) hr)]; done | rw [faultS, if_neg (by omega), if_pos (by simp_all)]; done
   ·first
    | exact Bool.noConfusion h
    |skip
     try simp only [decide_eq_false_iff_not] at h
     refine awp_skip ?_
     refine hK2 _ ?_
     refine awp_seq_k fun K5 hK5 => ?_
     refine awp_seq_k fun K6 hK6 => ?_
     refine awp_ops ?_
     simp (disch := omega) only [amL, amT, sA, sF, ↓reduceIte, reduceCtorEq]
     repeat' first | (refine EG_dec (fun h => ?_) (fun h => ?_) <;> simp (disch := omega) only [h, encR_getD, encE_getD, toNat_pred, amL, amT, sA, sB, sC, sD, sE, sF, sG, sH, sI, sJ, sK, sL, sM, sN, sO, ↓reduceIte, reduceCtorEq]) | (refine EG_cases (fun h => ?_) (fun h => ?_) <;> simp (disch := omega) only [h, amL, amT, sA, sF, ↓reduceIte, reduceCtorEq]) | (refine EC_intro (by kernel_rfl) rfl (c48 _ _ _) (by first | exact .inl rfl | exact .inr (.inl rfl)) ?_ ; simp (disch := omega) only [amL, sA, sF, ↓reduceIte])
     all_goals
      skip
      refine hK6 _ ?_
      refine awp_cond rfl (fun h => ?_) (fun h => ?_)
      ·first
       | exact Bool.noConfusion h
       |skip
        try simp only [Bool.not_eq_true'] at h
        refine awp_seq_k fun K7 hK7 => ?_
        refine awp_ops ?_
        simp (disch := omega) only [amL, sA]
        refine hK7 _ ?_
        refine awp_ret ?_
        try simp (disch := omega) only [amL, ↓reduceIte]
        all_goals first | rw [faultS, if_pos (by omega)]; done | rw [faultS, if_neg (by omega), if_neg (by simp_all), if_neg (by rw [← hr, rates_end (by omega)]; simp), if_neg (by rw [all_done (by omega) hn]; simp), if_pos h]; done | rw [faultS, if_neg (by omega), if_neg (by simp_all), if_neg (by rw [← hr, rates_end (by omega)]; simp), if_neg (by rw [all_done (by omega) hn]; simp), if_neg h]; done | rw [faultS, if_neg (by omega), if_neg (by simp_all), if_neg (by rw [← hr, rates_end (by omega)]; simp), if_pos (all_fail (d := default) (k := j) (by omega) h)]; done | rw [faultS, if_neg (by omega), if_neg (by simp_all), if_pos (rates_bad (k := k) (by omega) (by first | (left; simp_all; done) | (right; left; simp_all; done) | (right; right; omega)) hr)]; done | rw [faultS, if_neg (by omega), if_pos (by simp_all)]; done
      ·first
       | exact Bool.noConfusion h
       |skip
        try simp only [Bool.not_eq_false'] at h
        refine awp_skip ?_
        refine hK5 _ ?_
        refine awp_seq_k fun K8 hK8 => ?_
        refine awp_seq_k fun K9 hK9 => ?_
        refine awp_ops ?_
        simp (disch := omega) only [amL, sA]
        refine hK9 _ ?_
        refine awp_block ?_
        skip
        refine awp_loop_k (α := Nat) (fun k => ⟨T [(1, .ptr 1 0), (3, i64 k)], O [(1, .cells (cA a))]⟩) (fun k => a.rates.length - k) (fun k => k ≤ a.rates.length ∧ ratesS a.last (prevR a.rates k) (a.rates.drop k) = ratesS a.last (-1) a.rates) 0 ?_ ?_ (fun k hx10 K10 hK10 => ?_)
        · simp [prevR]
        · refine le_mk ?_ ?_ ?_ ?_ <;> (try simp (disch := omega) only [amL, sF, ↓reduceIte])
        obtain ⟨hk, hr⟩ := hx10
        refine awp_seq_k fun K11 hK11 => ?_
        refine awp_seq_k fun K12 hK12 => ?_
        refine awp_ops ?_
        simp (disch := omega) only [amL, amT, sA, sF, ↓reduceIte, reduceCtorEq]
        refine hK12 _ ?_
        refine awp_cond rfl (fun h => ?_) (fun h => ?_)
        ·first
         | exact Bool.noConfusion h
         |skip
          try simp only [decide_eq_true_eq] at h
          refine awp_skip ?_
          refine hK11 _ ?_
          refine awp_seq_k fun K13 hK13 => ?_
          refine awp_block ?_
          refine awp_seq_k fun K14 hK14 => ?_
          refine awp_any2 (by kernel_rfl) (by kernel_rfl) ?_
          simp (disch := omega) only [encR_getD, amL, amT, sA, sB, sF, ↓reduceIte, reduceCtorEq]
          repeat' first | (refine EG_dec (fun h => ?_) (fun h => ?_) <;> simp (disch := omega) only [h, encR_getD, toNat_pred, amL, amT, sA, sB, sF, ↓reduceIte, reduceCtorEq]) | (refine EG_cases (fun h => ?_) (fun h => ?_) <;> simp (disch := omega) only [h, encR_getD, amL, amT, sA, sB, sF, ↓reduceIte, reduceCtorEq]) | (refine EC_intro (by kernel_rfl) rfl (c48 _ _ _) (by first | exact .inl rfl | exact .inr (.inl rfl)) ?_ ; simp (disch := omega) only [amL, sA, sF, ↓reduceIte])
          all_goals
           skip
           refine hK14 _ ?_
           refine awp_cond rfl (fun h => ?_) (fun h => ?_)
           ·first
            | exact Bool.noConfusion h
            |skip
             try simp only [decide_eq_true_eq] at h
             refine awp_seq_k fun K15 hK15 => ?_
             refine awp_ops ?_
             simp (disch := omega) only [amL, sA]
             refine hK15 _ ?_
             refine awp_ret ?_
             try simp (disch := omega) only [amL, ↓reduceIte]
             all_goals first | rw [faultS, if_pos (by omega)]; done | rw [faultS, if_neg (by omega), if_neg (by simp_all), if_neg (by rw [← hr, rates_end (by omega)]; simp), if_neg (by rw [all_done (by omega) hn]; simp), if_pos h]; done | rw [faultS, if_neg (by omega), if_neg (by simp_all), if_neg (by rw [← hr, rates_end (by omega)]; simp), if_neg (by rw [all_done (by omega) hn]; simp), if_neg h]; done | rw [faultS, if_neg (by omega), if_neg (by simp_all), if_neg (by rw [← hr, rates_end (by omega)]; simp), if_pos (all_fail (d := default) (k := j) (by omega) h)]; done | rw [faultS, if_neg (by omega), if_neg (by simp_all), if_pos (rates_bad (k := k) (by omega) (by first | (left; simp_all; done) | (right; left; simp_all; done) | (right; right; omega)) hr)]; done | rw [faultS, if_neg (by omega), if_pos (by simp_all)]; done
           ·first
            | exact Bool.noConfusion h
            |skip
             try simp only [decide_eq_false_iff_not] at h
             refine awp_skip ?_
             refine hK13 _ ?_
             refine awp_ops ?_
             simp (disch := omega) only [amL, amT, sA, sF, ↓reduceIte]
             refine hK10 (k+1) _ ?_ ?_ (le_mk ?_ ?_ ?_ ?_)
             all_goals (try simp (disch := omega) only [amL, sF, ↓reduceIte])
             all_goals first | omega | exact ⟨by omega, rates_next (by omega) (by simp_all) (by simp_all) (fun _ => by omega) hr⟩
        ·first
         | exact Bool.noConfusion h
         |skip
          try simp only [decide_eq_false_iff_not] at h
          refine awp_exit ?_
          refine hK8 _ ?_
          refine awp_seq_k fun K16 hK16 => ?_
          refine awp_seq_k fun K17 hK17 => ?_
          refine awp_ops ?_
          simp (disch := omega) only [amL, sA]
          refine hK17 _ ?_
          refine awp_block ?_
          skip
          refine awp_loop_k (α := Nat) (fun j => ⟨T [(1, .ptr 1 0), (4, i64 j)], O [(1, .cells (cA a))]⟩) (fun j => a.entries.length - j) (fun j => j ≤ a.entries.length ∧ (a.entries.take j).all (isEntry a.last) = true) 0 ?_ ?_ (fun j hx18 K18 hK18 => ?_)
          · simp
          · refine le_mk ?_ ?_ ?_ ?_ <;> (try simp (disch := omega) only [amL, sF, ↓reduceIte])
          obtain ⟨hj, hn⟩ := hx18
          refine awp_seq_k fun K19 hK19 => ?_
          refine awp_seq_k fun K20 hK20 => ?_
          refine awp_ops ?_
          simp (disch := omega) only [amL, amT, sA, sF, ↓reduceIte, reduceCtorEq]
          refine hK20 _ ?_
          refine awp_cond rfl (fun h => ?_) (fun h => ?_)
          ·first
           | exact Bool.noConfusion h
           |skip
            try simp only [decide_eq_true_eq] at h
            refine awp_skip ?_
            refine hK19 _ ?_
            refine awp_seq_k fun K21 hK21 => ?_
            refine awp_block ?_
            refine awp_seq_k fun K22 hK22 => ?_
            refine awp_any2 (by kernel_rfl) (by kernel_rfl) ?_
            simp (disch := omega) only [encE_getD, amL, amT, sA, sB, sF, ↓reduceIte, reduceCtorEq]
            repeat' first | (refine EC_intro (by kernel_rfl) rfl (c84 a _) (by first | exact .inl rfl | exact .inr (.inl rfl)) ?_ ; simp (disch := omega) only [amL, sA, ↓reduceIte])
            refine hK22 _ ?_
            refine awp_cond rfl (fun h => ?_) (fun h => ?_)
            ·first
             | exact Bool.noConfusion h
             |skip
              try simp only [Bool.not_eq_true'] at h
              refine awp_seq_k fun K23 hK23 => ?_
              refine awp_ops ?_
              simp (disch := omega) only [amL, sA]
              refine hK23 _ ?_
              refine awp_ret ?_
              try simp (disch := omega) only [amL, ↓reduceIte]
              all_goals first | rw [faultS, if_pos (by omega)]; done | rw [faultS, if_neg (by omega), if_neg (by simp_all), if_neg (by rw [← hr, rates_end (by omega)]; simp), if_neg (by rw [all_done (by omega) hn]; simp), if_pos h]; done | rw [faultS, if_neg (by omega), if_neg (by simp_all), if_neg (by rw [← hr, rates_end (by omega)]; simp), if_neg (by rw [all_done (by omega) hn]; simp), if_neg h]; done | rw [faultS, if_neg (by omega), if_neg (by simp_all), if_neg (by rw [← hr, rates_end (by omega)]; simp), if_pos (all_fail (d := default) (k := j) (by omega) h)]; done | rw [faultS, if_neg (by omega), if_neg (by simp_all), if_pos (rates_bad (k := k) (by omega) (by first | (left; simp_all; done) | (right; left; simp_all; done) | (right; right; omega)) hr)]; done | rw [faultS, if_neg (by omega), if_pos (by simp_all)]; done
            ·first
             | exact Bool.noConfusion h
             |skip
              try simp only [Bool.not_eq_false'] at h
              refine awp_skip ?_
              refine hK21 _ ?_
              refine awp_ops ?_
              simp (disch := omega) only [amL, amT, sA, sF, ↓reduceIte]
              refine hK18 (j+1) _ ?_ ?_ (le_mk ?_ ?_ ?_ ?_)
              all_goals (try simp (disch := omega) only [amL, sF, ↓reduceIte])
              all_goals first | omega | exact ⟨by omega, all_step (d := default) (by omega) hn h⟩
          ·first
           | exact Bool.noConfusion h
           |skip
            try simp only [decide_eq_false_iff_not] at h
            refine awp_exit ?_
            refine hK16 _ ?_
            refine awp_seq_k fun K24 hK24 => ?_
            refine awp_seq_k fun K25 hK25 => ?_
            refine awp_ops ?_
            have hsm := small_of_all (by omega) (all_done (by omega) hn)
            simp (disch := omega) only [amL, amT, sA, sB, sF, ↓reduceIte]
            repeat' first | (refine EC_intro (by kernel_rfl) rfl (c50 a hsm) (by first | exact .inl rfl | exact .inr (.inl rfl)) ?_ ; simp (disch := omega) only [amL, amT, ↓reduceIte])
            refine hK25 _ ?_
            refine awp_cond rfl (fun h => ?_) (fun h => ?_)
            ·first
             | exact Bool.noConfusion h
             |skip
              try simp only [decide_eq_true_eq] at h
              refine awp_seq_k fun K26 hK26 => ?_
              refine awp_ops ?_
              simp (disch := omega) only [amL, sA]
              refine hK26 _ ?_
              refine awp_ret ?_
              try simp (disch := omega) only [amL, ↓reduceIte]
              all_goals first | rw [faultS, if_pos (by omega)]; done | rw [faultS, if_neg (by omega), if_neg (by simp_all), if_neg (by rw [← hr, rates_end (by omega)]; simp), if_neg (by rw [all_done (by omega) hn]; simp), if_pos h]; done | rw [faultS, if_neg (by omega), if_neg (by simp_all), if_neg (by rw [← hr, rates_end (by omega)]; simp), if_neg (by rw [all_done (by omega) hn]; simp), if_neg h]; done | rw [faultS, if_neg (by omega), if_neg (by simp_all), if_neg (by rw [← hr, rates_end (by omega)]; simp), if_pos (all_fail (d := default) (k := j) (by omega) h)]; done | rw [faultS, if_neg (by omega), if_neg (by simp_all), if_pos (rates_bad (k := k) (by omega) (by first | (left; simp_all; done) | (right; left; simp_all; done) | (right; right; omega)) hr)]; done | rw [faultS, if_neg (by omega), if_pos (by simp_all)]; done
            ·first
             | exact Bool.noConfusion h
             |skip
              try simp only [decide_eq_false_iff_not] at h
              refine awp_skip ?_
              refine hK24 _ ?_
              refine awp_seq_k fun K27 hK27 => ?_
              refine awp_ops ?_
              simp (disch := omega) only [amL, sA]
              refine hK27 _ ?_
              refine awp_ret ?_
              try simp (disch := omega) only [amL, ↓reduceIte]
              all_goals first | rw [faultS, if_pos (by omega)]; done | rw [faultS, if_neg (by omega), if_neg (by simp_all), if_neg (by rw [← hr, rates_end (by omega)]; simp), if_neg (by rw [all_done (by omega) hn]; simp), if_pos h]; done | rw [faultS, if_neg (by omega), if_neg (by simp_all), if_neg (by rw [← hr, rates_end (by omega)]; simp), if_neg (by rw [all_done (by omega) hn]; simp), if_neg h]; done | rw [faultS, if_neg (by omega), if_neg (by simp_all), if_neg (by rw [← hr, rates_end (by omega)]; simp), if_pos (all_fail (d := default) (k := j) (by omega) h)]; done | rw [faultS, if_neg (by omega), if_neg (by simp_all), if_pos (rates_bad (k := k) (by omega) (by first | (left; simp_all; done) | (right; left; simp_all; done) | (right; right; omega)) hr)]; done | rw [faultS, if_neg (by omega), if_pos (by simp_all)]; done
end AM.Try
end
/- The program's small functions: ranges, entries, rates. -/
section
namespace AM.Try
open Go AM AM.Duty
open Nat renaming reduceLT → sA, reduceAdd → sB, reduceMul → sC, reduceSub → sD, reduceLeDiff → sE, reduceEqDiff → sF, reduceBEq → sG
open Int renaming reduceAdd → sH, reduceSub → sI, reduceMul → sJ, reduceLT → sK, reduceLE → sL, reduceNeg → sM, reduceToNat → sN, reduceEq → sO
set_option maxHeartbeats 4000000
theorem ints54 : IntsEq Go.Proofs.Try.prog 54 2 := intsEq_of (by kernel_rfl)
theorem intsOf2 {a b : Int} : intsOf [i64 a, i64 b] = some [a, b] := rfl
theorem none54 {a b : Int} (ha : inR a = true) (hb : inR b = true) : aggEq Go.Proofs.Try.prog .eql 54 (some [a, b]) (some [0, 0]) = some (.pure (bl (decide (a = 0) && decide (b = 0)))) := by
  rw [aggEq_eql (a := [a, b]) (b := [0, 0]) ints54 rfl (by simp [ha, hb]) (by decide)]
  simp
theorem c63 (n lo hi : Int) : PCall Go.Proofs.Try.prog 63 [i64 n, i64 lo, i64 hi] (bl (inB n lo hi)) := by
  refine pcall_mk (v := []) (q := []) (N := 15) (rs := [.tmp 6]) Go.Proofs.Try.func63 rfl rfl rfl rfl rfl ?_
  refine awp_seq_k fun K1 hK1 => ?_
  refine awp_ops ?_
  simp (disch := omega) only [amL, sA, sB]
  refine hK1 _ ?_
  refine awp_seq_k fun K2 hK2 => ?_
  refine awp_ops ?_
  simp (disch := omega) only [amL, amT, sA, sF, ↓reduceIte, reduceCtorEq]
  repeat' first | (refine EG_dec (fun h => ?_) (fun h => ?_) <;> simp (disch := omega) only [h, amL, amT, sA, sF, ↓reduceIte, reduceCtorEq]) | (refine EG_cases (fun h => ?_) (fun h => ?_) <;> simp (disch := omega) only [h, amL, amT, sA, sB, sC, sD, sE, sF, sG, sH, sI, sJ, sK, sL, sM, sN, sO, ↓reduceIte, reduceCtorEq])
  all_goals
   skip
   refine hK2 _ ?_
   refine awp_ret ?_
   try simp (disch := omega) only [amL, ↓reduceIte]
   simp [inB, h]
theorem c58 (lo hi n : Int) : PCall Go.Proofs.Try.prog 58 [.agg [i64 lo, i64 hi], i64 n] (bl (inB n lo hi)) := by
  refine pcall_mk (v := []) (q := []) (N := 11) (rs := [.tmp 4]) Go.Proofs.Try.func58 rfl rfl rfl rfl rfl ?_
  refine awp_seq_k fun K1 hK1 => ?_
  refine awp_ops ?_
  simp (disch := omega) only [amL, sA, sB, ↓reduceIte]
  refine hK1 _ ?_
  refine awp_seq_k fun K2 hK2 => ?_
  refine awp_ops ?_
  simp (disch := omega) only [amL, amT, sA, sF, ↓reduceIte, reduceCtorEq]
  repeat' first | (refine EC_intro (by kernel_rfl) rfl (c63 _ _ _) (by first | exact .inl rfl | exact .inr (.inl rfl)) ?_ ; simp (disch := omega) only [amL, sA, ↓reduceIte])
  refine hK2 _ ?_
  refine awp_ret ?_
  try simp (disch := omega) only [amL, ↓reduceIte]
  skip
theorem c66 (lo hi : Int) (h1 : -9223372036854775808 ≤ hi - lo) (h2 : hi - lo < 9223372036854775807) : PCall Go.Proofs.Try.prog 66 [.agg [i64 lo, i64 hi]] (i64 (hi - lo + 1)) := by
  refine pcall_mk (v := []) (q := []) (N := 9) (rs := [.tmp 2]) Go.Proofs.Try.func66 rfl rfl rfl rfl rfl ?_
  refine awp_seq_k fun K1 hK1 => ?_
  refine awp_ops ?_
  simp (disch := omega) only [amL, sA, ↓reduceIte]
  refine hK1 _ ?_
  refine awp_seq_k fun K2 hK2 => ?_
  refine awp_ops ?_
  simp (disch := omega) only [amL, amT, sA, sF, ↓reduceIte, reduceCtorEq]
  refine hK2 _ ?_
  refine awp_ret ?_
  try simp (disch := omega) only [amL, ↓reduceIte]
  skip
def validE (e : Entry) : Bool :=
  if e.kind = 0 then decide (0 ≤ e.lo) && (decide (e.lo ≤ e.hi) && (decide (e.hi ≤ 50) && decide (e.pence = 0)))
   else if e.kind = 1 then decide (e.lo = 0) && (decide (e.hi = 0) && inB e.pence 1 100000)
   else if e.kind = 2 then inB e.lo 1 50 && (decide (e.hi = e.lo) && decide (e.pence = 0))
   else if e.kind = 3 then decide (e.lo = 0) && (decide (e.hi = 0) && inB e.pence (-100000) 100000)
   else false
theorem isEntry_eq (last : Int) (e : Entry) : isEntry last e = (inB e.day 0 last && validE e) := rfl
theorem c85 (e : Entry) (h1 : inR e.lo = true) (h2 : inR e.hi = true) : PCall Go.Proofs.Try.prog 85 [avE e] (bl (validE e)) := by
  refine pcall_mk (v := []) (q := []) (N := 72) (rs := [.tmp 2]) Go.Proofs.Try.func85 rfl rfl rfl rfl rfl ?_
  have hz := none54 h1 h2
  refine awp_seq_k fun K1 hK1 => ?_
  refine awp_ops ?_
  simp (disch := omega) only [amL, sA, ↓reduceIte]
  refine hK1 _ ?_
  refine awp_seq_k fun K2 hK2 => ?_
  refine awp_ops ?_
  simp (disch := omega) only [hz, fBin_agg, amL, amT, sA, sB, sE, sF, ↓reduceIte, reduceCtorEq]
  refine hK2 _ ?_
  refine awp_seq_k fun K3 hK3 => ?_
  refine awp_seq_k fun K4 hK4 => ?_
  refine awp_ops ?_
  simp (disch := omega) only [amL, amT, sA, sF, ↓reduceIte, reduceCtorEq]
  refine hK4 _ ?_
  refine awp_block ?_
  refine awp_seq_k fun K5 hK5 => ?_
  refine awp_ops ?_
  simp (disch := omega) only [amL, amT, sA, ↓reduceIte]
  refine hK5 _ ?_
  refine awp_cond rfl (fun h => ?_) (fun h => ?_)
  ·first
   | exact Bool.noConfusion h
   |skip
    try simp only [decide_eq_true_eq] at h
    refine awp_seq_k fun K6 hK6 => ?_
    refine awp_ops ?_
    simp (disch := omega) only [amL, amT, sA, sF, ↓reduceIte, reduceCtorEq]
    repeat' first | (refine EG_dec (fun h => ?_) (fun h => ?_) <;> simp (disch := omega) only [h, amL, amT, sA, sB, sF, ↓reduceIte, reduceCtorEq]) | (refine EG_cases (fun h => ?_) (fun h => ?_) <;> simp (disch := omega) only [h, hz, intsOf2, fBin_agg, amL, amT, sA, sB, sC, sD, sE, sF, sG, sH, sI, sJ, sK, sL, sM, sN, sO, ↓reduceIte, reduceCtorEq])
    all_goals
     skip
     refine hK6 _ ?_
     refine awp_ret ?_
     try simp (disch := omega) only [amL, ↓reduceIte]
     all_goals (simp_all [validE] <;> omega)
  ·first
   | exact Bool.noConfusion h
   |skip
    try simp only [decide_eq_false_iff_not] at h
    refine awp_seq_k fun K7 hK7 => ?_
    refine awp_ops ?_
    simp (disch := omega) only [amL, amT, sA, sF, ↓reduceIte]
    refine hK7 _ ?_
    refine awp_cond rfl (fun h => ?_) (fun h => ?_)
    ·first
     | exact Bool.noConfusion h
     |skip
      try simp only [decide_eq_true_eq] at h
      refine awp_seq_k fun K8 hK8 => ?_
      refine awp_ops ?_
      simp (disch := omega) only [amL, sA, sF, ↓reduceIte]
      repeat' first | (refine EG_dec (fun h => ?_) (fun h => ?_) <;> simp (disch := omega) only [h, hz, intsOf2, fBin_agg, amL, amT, sA, sB, sC, sD, sE, sF, sG, sH, sI, sJ, sK, sL, sM, sN, sO, ↓reduceIte, reduceCtorEq]) | (refine EG_cases (fun h => ?_) (fun h => ?_) <;> simp (disch := omega) only [h, amL, amT, sA, sF, ↓reduceIte, reduceCtorEq]) | (refine EC_intro (by kernel_rfl) rfl (c63 _ _ _) (by first | exact .inl rfl | exact .inr (.inl rfl)) ?_ ; simp (disch := omega) only [amL, sA, sF, ↓reduceIte])
      all_goals
       skip
       refine hK8 _ ?_
       refine awp_ret ?_
       try simp (disch := omega) only [amL, ↓reduceIte]
       all_goals (simp_all [validE] <;> omega)
    ·first
     | exact Bool.noConfusion h
     |skip
      try simp only [decide_eq_false_iff_not] at h
      refine awp_seq_k fun K9 hK9 => ?_
      refine awp_ops ?_
      simp (disch := omega) only [amL, amT, sA, sF, ↓reduceIte]
      refine hK9 _ ?_
      refine awp_cond rfl (fun h => ?_) (fun h => ?_)
      ·first
       | exact Bool.noConfusion h
       |skip
        try simp only [decide_eq_true_eq] at h
        refine awp_seq_k fun K10 hK10 => ?_
        refine awp_ops ?_
        simp (disch := omega) only [amL, amT, sA, sB, sF, ↓reduceIte, reduceCtorEq]
        repeat' first | (refine EG_dec (fun h => ?_) (fun h => ?_) <;> simp (disch := omega) only [h, amL, amT, sA, sF, ↓reduceIte, reduceCtorEq]) | (refine EG_cases (fun h => ?_) (fun h => ?_) <;> simp (disch := omega) only [h, amL, amT, sA, sF, ↓reduceIte, reduceCtorEq]) | (refine EC_intro (by kernel_rfl) rfl (c63 _ _ _) (by first | exact .inl rfl | exact .inr (.inl rfl)) ?_ ; simp (disch := omega) only [amL, sA, sF, ↓reduceIte])
        all_goals
         skip
         refine hK10 _ ?_
         refine awp_ret ?_
         try simp (disch := omega) only [amL, ↓reduceIte]
         all_goals (simp_all [validE] <;> omega)
      ·first
       | exact Bool.noConfusion h
       |skip
        try simp only [decide_eq_false_iff_not] at h
        refine awp_seq_k fun K11 hK11 => ?_
        refine awp_ops ?_
        simp (disch := omega) only [amL, amT, sA, sF, ↓reduceIte]
        refine hK11 _ ?_
        refine awp_cond rfl (fun h => ?_) (fun h => ?_)
        ·first
         | exact Bool.noConfusion h
         |skip
          try simp only [decide_eq_true_eq] at h
          refine awp_seq_k fun K12 hK12 => ?_
          refine awp_ops ?_
          simp (disch := omega) only [amL, sA, sF, sM, ↓reduceIte]
          repeat' first | (refine EG_dec (fun h => ?_) (fun h => ?_) <;> simp (disch := omega) only [h, hz, intsOf2, fBin_agg, amL, amT, sA, sB, sC, sD, sE, sF, sG, sH, sI, sJ, sK, sL, sM, sN, sO, ↓reduceIte, reduceCtorEq]) | (refine EG_cases (fun h => ?_) (fun h => ?_) <;> simp (disch := omega) only [h, amL, amT, sA, sF, sM, ↓reduceIte, reduceCtorEq]) | (refine EC_intro (by kernel_rfl) rfl (c63 _ _ _) (by first | exact .inl rfl | exact .inr (.inl rfl)) ?_ ; simp (disch := omega) only [amL, sA, sF, sM, ↓reduceIte])
          all_goals
           skip
           refine hK12 _ ?_
           refine awp_ret ?_
           try simp (disch := omega) only [amL, sM, ↓reduceIte]
           all_goals (simp_all [validE] <;> omega)
        ·first
         | exact Bool.noConfusion h
         |skip
          try simp only [decide_eq_false_iff_not] at h
          refine awp_skip ?_
          refine hK3 _ ?_
          refine awp_seq_k fun K13 hK13 => ?_
          refine awp_ops ?_
          simp (disch := omega) only [amL, sA]
          refine hK13 _ ?_
          refine awp_ret ?_
          try simp (disch := omega) only [amL, ↓reduceIte]
          all_goals (simp_all [validE] <;> omega)
theorem c62 (a : Acc) (e : Entry) (h1 : inR e.lo = true) (h2 : inR e.hi = true) : PCall Go.Proofs.Try.prog 62 [avA a, avE e] (bl (isEntry a.last e)) := by
  refine pcall_mk (v := []) (q := []) (N := 14) (rs := [.tmp 4]) Go.Proofs.Try.func62 rfl rfl rfl rfl rfl ?_
  refine awp_seq_k fun K1 hK1 => ?_
  refine awp_ops ?_
  simp (disch := omega) only [amL, sA, sB, sF, ↓reduceIte, reduceCtorEq]
  refine hK1 _ ?_
  refine awp_seq_k fun K2 hK2 => ?_
  refine awp_ops ?_
  simp (disch := omega) only [amL, amT, sA, sF, ↓reduceIte, reduceCtorEq]
  repeat' first | (refine EG_dec (fun h => ?_) (fun h => ?_) <;> simp (disch := omega) only [h, amL, amT, sA, sB, sC, sD, sE, sF, sG, sH, sI, sJ, sK, sL, sM, sN, sO, ↓reduceIte, reduceCtorEq]) | (refine EG_cases (fun h => ?_) (fun h => ?_) <;> simp (disch := omega) only [h, amL, amT, sA, sB, sF, ↓reduceIte]) | (refine EC_intro (by kernel_rfl) rfl (c63 _ _ _) (by first | exact .inl rfl | exact .inr (.inl rfl)) ?_ ; simp (disch := omega) only [amL, sA, ↓reduceIte]) | (refine EC_intro (by kernel_rfl) rfl (c85 e h1 h2) (by first | exact .inl rfl | exact .inr (.inl rfl)) ?_ ; simp (disch := omega) only [amL, sA, sF, ↓reduceIte])
  all_goals
   skip
   refine hK2 _ ?_
   refine awp_ret ?_
   try simp (disch := omega) only [amL, ↓reduceIte]
   all_goals simp_all [isEntry_eq]
def rateOn (day : Int) : List Rate → Int → Int
  | [], p => p
  | r :: l, p => rateOn day l (if r.day ≤ day then r.pence else p)
theorem rate_next {day p : Int} {l : List Rate} {k : Nat} {R : Int} (h : k < l.length) (hr : rateOn day (l.drop k) p = R) : rateOn day (l.drop (k + 1)) (if (getR l k).day ≤ day then (getR l k).pence else p) = R := by
  rw [drop_getD (d := default) h] at hr; exact hr
theorem c117 (a : Acc) (day : Int) (hl : a.rates.length < 1000000) : PCall Go.Proofs.Try.prog 117 [avA a, i64 day] (i64 (rateOn day a.rates 0)) := by
  refine pcall_mk (v := []) (q := []) (N := 22) (rs := [.tmp 4]) Go.Proofs.Try.func117 rfl rfl rfl rfl rfl ?_
  refine awp_seq_k fun K1 hK1 => ?_
  refine awp_ops ?_
  simp (disch := omega) only [amL, sA, sB, ↓reduceIte]
  refine hK1 _ ?_
  refine awp_seq_k fun K2 hK2 => ?_
  refine awp_seq_k fun K3 hK3 => ?_
  refine awp_ops ?_
  simp (disch := omega) only [amL, amT, sA, sF, ↓reduceIte, reduceCtorEq]
  refine hK3 _ ?_
  refine awp_block ?_
  skip
  refine awp_loop_k (α := Nat × Int) (fun x => ⟨T [(1, i64 day), (8, .p (.sl (a.rates.map encR))), (10, i64 x.1), (9, i64 a.rates.length), (4, i64 x.2)], O []⟩) (fun x => a.rates.length - x.1) (fun x => x.1 ≤ a.rates.length ∧ rateOn day (a.rates.drop x.1) x.2 = rateOn day a.rates 0) (0, 0) ?_ ?_ (fun x hx4 K4 hK4 => ?_)
  · simp
  · refine le_mk ?_ ?_ ?_ ?_ <;> (try simp (disch := omega) only [amL, sF, ↓reduceIte, reduceCtorEq])
  obtain ⟨k, p⟩ := x; dsimp only at hx4 ⊢; obtain ⟨hk, hr⟩ := hx4
  refine awp_seq_k fun K5 hK5 => ?_
  refine awp_ops ?_
  simp (disch := omega) only [amL, amT, sA, sF, ↓reduceIte]
  refine hK5 _ ?_
  refine awp_seq_k fun K6 hK6 => ?_
  refine awp_cond rfl (fun h => ?_) (fun h => ?_)
  ·first
   | exact Bool.noConfusion h
   |skip
    try simp only [decide_eq_true_eq] at h
    refine awp_skip ?_
    refine hK6 _ ?_
    refine awp_seq_k fun K7 hK7 => ?_
    refine awp_block ?_
    refine awp_seq_k fun K8 hK8 => ?_
    refine awp_ops ?_
    simp (disch := omega) only [encR_getD, amL, amT, sA, sB, sF, ↓reduceIte]
    refine hK8 _ ?_
    refine awp_seq_k fun K9 hK9 => ?_
    refine awp_ops ?_
    simp (disch := omega) only [amL, amT, sA, sF, ↓reduceIte, reduceCtorEq]
    refine hK9 _ ?_
    refine awp_cond rfl (fun h => ?_) (fun h => ?_)
    ·first
     | exact Bool.noConfusion h
     |skip
      try simp only [decide_eq_true_eq] at h
      refine awp_ops ?_
      simp (disch := omega) only [amL, amT, sA, sF, ↓reduceIte, reduceCtorEq]
      refine hK7 _ ?_
      refine awp_ops ?_
      simp (disch := omega) only [amL, amT, sA, sF, ↓reduceIte]
      refine hK4 (k+1, if (getR a.rates k).day ≤ day then (getR a.rates k).pence else p) _ ?_ ?_ (le_mk ?_ ?_ ?_ ?_)
      all_goals (try simp (disch := omega) only [amL, sF, ↓reduceIte])
      all_goals first | omega | (have hx := rate_next (k := k) (by omega) hr; (first | rw [if_pos h] at hx | rw [if_neg h] at hx); exact ⟨by omega, hx⟩) | (simp [h]; done) | skip
    ·first
     | exact Bool.noConfusion h
     |skip
      try simp only [decide_eq_false_iff_not] at h
      refine awp_skip ?_
      refine hK7 _ ?_
      refine awp_ops ?_
      simp (disch := omega) only [amL, amT, sA, sF, ↓reduceIte]
      refine hK4 (k+1, if (getR a.rates k).day ≤ day then (getR a.rates k).pence else p) _ ?_ ?_ (le_mk ?_ ?_ ?_ ?_)
      all_goals (try simp (disch := omega) only [amL, sF, ↓reduceIte])
      all_goals first | omega | (have hx := rate_next (k := k) (by omega) hr; (first | rw [if_pos h] at hx | rw [if_neg h] at hx); exact ⟨by omega, hx⟩) | (simp [h]; done) | skip
  ·first
   | exact Bool.noConfusion h
   |skip
    try simp only [decide_eq_false_iff_not] at h
    refine awp_exit ?_
    refine hK2 _ ?_
    refine awp_seq_k fun K10 hK10 => ?_
    refine awp_ops ?_
    simp (disch := omega) only [amL, sA, sF, ↓reduceIte]
    refine hK10 _ ?_
    refine awp_ret ?_
    try simp (disch := omega) only [amL, ↓reduceIte]
    rw [List.drop_of_length_le (by omega)] at hr; rw [← hr]; rfl
end AM.Try
end
/- The program's accounts: rates in order, plans, what is kept, and the error of an account. -/
section
namespace AM.Try
open Go AM AM.Duty
open Nat renaming reduceLT → sA, reduceAdd → sB, reduceMul → sC, reduceSub → sD, reduceLeDiff → sE, reduceEqDiff → sF, reduceBEq → sG
open Int renaming reduceAdd → sH, reduceSub → sI, reduceMul → sJ, reduceLT → sK, reduceLE → sL, reduceNeg → sM, reduceToNat → sN, reduceEq → sO
set_option maxHeartbeats 4000000
theorem clean2 {f : Fn} {n m k : Nat} (h : (AV.fn f [] [.ptr n 0, .ptr m 0]).clean k = false) : k = n ∨ k = m := by
  by_cases e : k = n
  · exact .inl e
  · by_cases e2 : k = m
    · exact .inr e2
    · simp [AV.clean, AV.clean.cleanL, Ne.symm e, Ne.symm e2] at h
theorem clean_i64 {k : Nat} {n : Int} : (AO.cells [i64 n]).clean k = true := rfl
theorem clean_cA {k : Nat} {a : Acc} : (AO.cells (cA a)).clean k = true := rfl
def st2 (a : Acc) (nl na : Nat) (s : Int) (os : Nat → Option AO) : Prop := os nl = some (.cells [i64 s]) ∧ os na = some (.cells (cA a))
theorem tests2 {α : Type} {f : FuncId} {a : Acc} {nl na : Nat} {arg : α → AV} {l : List α} {step : Int → α → Int × Bool}
    (hc : ∀ s x os bd, x ∈ l → nl ≠ na → nl < bd → na < bd → os nl = some (.cells [i64 s]) → os na = some (.cells (cA a)) → (Hp os).closed → VCall Go.Proofs.Try.prog bd (.fn (.func f) [] [.ptr nl 0, .ptr na 0]) [arg x] os fun res os' => res = bl (step s x).2 ∧ os' = upd os nl (some (.cells [i64 (step s x).1]))) (hne : nl ≠ na) :
    Tests (.fn (.func f) [] [.ptr nl 0, .ptr na 0]) (fun n => n = nl ∨ n = na) arg l (st2 a nl na) step where
  live s os h := by
    rw [lives_fn_eq, livesL_nil, livesL_cons, livesL_cons, livesL_nil, lives_ptr_eq, lives_ptr_eq, h.1, h.2]; exact ⟨trivial, rfl, rfl, trivial⟩
  stable s os os' h he := ⟨(he nl (.inl rfl)).trans h.1, (he na (.inr rfl)).trans h.2⟩
  foot s os n h hn := by
    rcases hn with rfl | rfl
    · exact ⟨_, h.1, fun m hm => by rw [clean_i64] at hm; cases hm⟩
    · exact ⟨_, h.2, fun m hm => by rw [clean_cA] at hm; cases hm⟩
  call s x os bd hx h hcl := by
    intro hfree
    have h1 := lt_of_live hfree h.1
    have h2 := lt_of_live hfree h.2
    refine VCall.mono (hc s x os bd hx hne h1 h2 h.1 h.2 hcl) ?_ hfree
    rintro r os' ⟨rfl, rfl⟩
    exact ⟨rfl, ⟨upd_eq, (upd_ne (Ne.symm hne)).trans h.2⟩, fun n hn => upd_ne (fun e => hn (.inl e))⟩
theorem sub_upd2 {os : Nat → Option AO} {n m : Nat} {x y : Option AO} (hm : os m = none) (hne : n ≠ m) : Sub (upd os n x) (upd (upd os m y) n x) := fun k => by
  by_cases e : k = n
  · subst e; right; rw [upd_eq, upd_eq]
  · rw [upd_ne e, upd_ne e]
    by_cases e2 : k = m
    · subst e2; left; exact hm
    · right; rw [upd_ne e2]
def stepRate (last : Int) (s : Int) (r : Rate) : Int × Bool := (r.day, inB r.day (IntKind.wrap .i64 (s + 1)) last && inB r.pence 0 100)
theorem u87 {a : Acc} {nl na : Nat} (s : Int) (x : Rate) (os : Nat → Option AO) (bd : Nat) (_ : nl ≠ na) (h1 : nl < bd) (h2 : na < bd) (hl : os nl = some (.cells [i64 s])) (ha : os na = some (.cells (cA a))) (hcl0 : (Hp os).closed) :
    VCall Go.Proofs.Try.prog bd (.fn (.func 87) [] [.ptr nl 0, .ptr na 0]) [.agg [i64 x.day, i64 x.pence]] os fun res os' => res = bl (stepRate a.last s x).2 ∧ os' = upd os nl (some (.cells [i64 (stepRate a.last s x).1])) := by
  refine vcall_mk (v := []) (q := []) (N := 21) (rs := [.tmp 4]) Go.Proofs.Try.func87 rfl (by kernel_rfl) rfl rfl (fun hcl hfree => ?_)
  have hfr0 : ∀ k, os (bd + k) = none := fun k => hfree _ (by omega)
  refine awp_seq_k fun K1 hK1 => ?_
  refine awp_ops ?_
  simp (disch := omega) only [hfr0, amL, sA, sB, ↓reduceIte]
  refine hK1 _ ?_
  refine awp_seq_k fun K2 hK2 => ?_
  refine awp_ops ?_
  simp (disch := omega) only [hl, ha, upd_ne, amL, amT, sA, sF, ↓reduceIte, reduceCtorEq]
  repeat' first | (refine EG_dec (fun h => ?_) (fun h => ?_) <;> simp (disch := omega) only [h, hl, ha, hfr0, upd_ne, amL, amT, sA, sB, sC, sD, sE, sF, sG, sH, sI, sJ, sK, sL, sM, sN, sO, ↓reduceIte, reduceCtorEq]) | (refine EG_cases (fun h => ?_) (fun h => ?_) <;> simp (disch := omega) only [h, amL, amT, sA, sF, ↓reduceIte, reduceCtorEq]) | (refine EC_intro (by kernel_rfl) rfl (c63 _ _ _) (by first | exact .inl rfl | exact .inr (.inl rfl)) ?_ ; simp (disch := omega) only [amL, sA, sF, ↓reduceIte])
  all_goals
   skip
   refine hK2 _ ?_
   refine awp_seq_k fun K3 hK3 => ?_
   refine awp_ops ?_
   simp (disch := omega) only [hl, upd_ne, amL, amT, sA, sF, ↓reduceIte, reduceCtorEq]
   refine hK3 _ ?_
   refine awp_seq_k fun K4 hK4 => ?_
   refine awp_ops ?_
   simp (disch := omega) only [amL, sA, sF, ↓reduceIte]
   refine hK4 _ ?_
   refine awp_ret ?_
   try simp (disch := omega) only [amL]
   refine retV_mk (res := bl _) (upd os nl (some (.cells [i64 x.day]))) (by simp (disch := omega) only [amL, ↓reduceIte]; try rfl) (sub_upd2 (hfr0 _) (by omega)) (closed_upd hcl0 (by rw [lives_cells_eq]; simp only [livesL_nil, livesL_cons, lives_p_eq, and_self])) (AV.lives_p _ _) ⟨by simp [stepRate, h], rfl⟩
theorem T_get_none {l : List (Nat × AO)} {b : Nat} (h : l.all fun x => decide (x.1 < b)) : ∀ n, b ≤ n → O l n = none := by
  intro n hn
  induction l with
  | nil => rfl
  | cons x l ih =>
    simp only [List.all_cons, Bool.and_eq_true, decide_eq_true_eq] at h
    rw [O_cons, if_neg (by omega)]
    exact ih h.2
theorem c64 (a : Acc) (hl : a.rates.length < 1000000) : PCall Go.Proofs.Try.prog 64 [avA a] (bl (allS (stepRate a.last) (-1) a.rates).2) := by
  refine pcall_mk (v := [86]) (q := []) (N := 8) (rs := [.tmp 2]) Go.Proofs.Try.func64 rfl rfl rfl rfl rfl ?_
  have ht := tests2 (f := 87) (a := a) (nl := 3) (na := 1) (arg := fun x : Rate => .agg [i64 x.day, i64 x.pence]) (l := a.rates) (step := stepRate a.last) (fun s x os bd _ h1 h2 h3 h4 h5 h6 => u87 s x os bd h1 h2 h3 h4 h5 h6) (by decide)
  refine awp_seq_k fun K1 hK1 => ?_
  refine awp_ops ?_
  simp (disch := omega) only [amL, sA, sM, ↓reduceIte]
  refine hK1 _ ?_
  refine awp_seq_k fun K2 hK2 => ?_
  refine awp_ops ?_
  simp (disch := omega) only [amL, amT, sA, sF, sM, ↓reduceIte]
  refine hK2 _ ?_
  refine awp_seq_k fun K3 hK3 => ?_
  refine awp_ops ?_
  simp (disch := omega) only [amL, amT, sA, sF, sM, ↓reduceIte, reduceCtorEq]
  refine EV_intro2 [] (by decide) (c86 (bd := 8) hl ht (fun m hm => clean2 hm) (s := -1) ⟨rfl, rfl⟩) (T_get_none rfl) (by decide) (fun res os2 hR hcl2 hlv2 => ?_)
  obtain ⟨rfl, hI2, hfr2⟩ := hR
  simp (disch := omega) only [amL, sA, sM, ↓reduceIte]
  refine hK3 _ ?_
  refine awp_ret ?_
  try simp (disch := omega) only [amL, sM, ↓reduceIte]
  skip
def stepDay (last : Int) (s : Int) (n : Int) : Int × Bool := (n, inB n (IntKind.wrap .i64 (s + 1)) last)
theorem u98 {a : Acc} {nl na : Nat} (s : Int) (x : Int) (os : Nat → Option AO) (bd : Nat) (_ : nl ≠ na) (_ : nl < bd) (_ : na < bd) (hl : os nl = some (.cells [i64 s])) (ha : os na = some (.cells (cA a))) (hcl0 : (Hp os).closed) :
    VCall Go.Proofs.Try.prog bd (.fn (.func 98) [] [.ptr nl 0, .ptr na 0]) [i64 x] os fun res os' => res = bl (stepDay a.last s x).2 ∧ os' = upd os nl (some (.cells [i64 (stepDay a.last s x).1])) := by
  refine vcall_mk (v := []) (q := []) (N := 14) (rs := [.tmp 4]) Go.Proofs.Try.func98 rfl (by kernel_rfl) rfl rfl (fun hcl hfree => ?_)
  have hfr0 : ∀ k, os (bd + k) = none := fun k => hfree _ (by omega)
  refine awp_seq_k fun K1 hK1 => ?_
  refine awp_ops ?_
  simp (disch := omega) only [amL, sA, sB]
  refine hK1 _ ?_
  refine awp_seq_k fun K2 hK2 => ?_
  refine awp_ops ?_
  simp (disch := omega) only [hl, ha, amL, amT, sA, sF, ↓reduceIte, reduceCtorEq]
  repeat' first | (refine EC_intro (by kernel_rfl) rfl (c63 _ _ _) (by first | exact .inl rfl | exact .inr (.inl rfl)) ?_ ; simp (disch := omega) only [amL, sA, ↓reduceIte])
  refine hK2 _ ?_
  refine awp_seq_k fun K3 hK3 => ?_
  refine awp_ops ?_
  simp (disch := omega) only [hl, amL, amT, sA, sF, ↓reduceIte, reduceCtorEq]
  refine hK3 _ ?_
  refine awp_seq_k fun K4 hK4 => ?_
  refine awp_ops ?_
  simp (disch := omega) only [amL, sA, sF, ↓reduceIte]
  refine hK4 _ ?_
  refine awp_ret ?_
  try simp (disch := omega) only [amL]
  refine retV_mk (res := bl _) (upd os nl (some (.cells [i64 x]))) (by simp (disch := omega) only [amL, ↓reduceIte]; try rfl) (Sub.refl _) (closed_upd hcl0 (by rw [lives_cells_eq]; simp only [livesL_nil, livesL_cons, lives_p_eq, and_self])) (AV.lives_p _ _) ⟨rfl, rfl⟩
theorem c78 (a : Acc) (days : List Int) (hl : days.length < 1000000) : PCall Go.Proofs.Try.prog 78 [avA a, isl days] (bl (allS (stepDay a.last) (-1) days).2) := by
  refine pcall_mk (v := [93]) (q := []) (N := 9) (rs := [.tmp 4]) Go.Proofs.Try.func78 rfl rfl rfl rfl rfl ?_
  have ht := tests2 (f := 98) (a := a) (nl := 5) (na := 2) (arg := i64) (l := days) (step := stepDay a.last) (fun s x os bd _ h1 h2 h3 h4 h5 h6 => u98 s x os bd h1 h2 h3 h4 h5 h6) (by decide)
  refine awp_seq_k fun K1 hK1 => ?_
  refine awp_ops ?_
  simp (disch := omega) only [amL, sA, sB, sM, ↓reduceIte]
  refine hK1 _ ?_
  refine awp_seq_k fun K2 hK2 => ?_
  refine awp_ops ?_
  simp (disch := omega) only [amL, amT, sA, sF, sM, ↓reduceIte]
  refine hK2 _ ?_
  refine awp_seq_k fun K3 hK3 => ?_
  refine awp_ops ?_
  simp (disch := omega) only [amL, sA, sF, sM, ↓reduceIte, reduceCtorEq]
  refine EV_intro2 [] (by decide) (c93 (bd := 9) hl ht (fun m hm => clean2 hm) (s := -1) ⟨rfl, rfl⟩) (T_get_none rfl) (by decide) (fun res os2 hR hcl2 hlv2 => ?_)
  obtain ⟨rfl, hI2, hfr2⟩ := hR
  simp (disch := omega) only [amL, sA, sM, ↓reduceIte]
  refine hK3 _ ?_
  refine awp_ret ?_
  try simp (disch := omega) only [amL, sM, ↓reduceIte]
  skip
theorem rates_all {last : Int} (hlast : last ≤ 11) : ∀ (l : List Rate) (s : Int), -1 ≤ s → s ≤ 11 → (allS (stepRate last) s l).2 = ratesS last s l
  | [], s, _, _ => rfl
  | r :: l, s, h1, h2 => by
    have hw : IntKind.wrap .i64 (s + 1) = s + 1 := wrap64 (by omega) (by omega)
    simp only [allS, ratesS]
    have e : (stepRate last s r).2 = (inB r.day (s + 1) last && inB r.pence 0 100) := by unfold stepRate; rw [hw]
    rw [e]
    have e2 : inB r.day (s + 1) last = (inB r.day 0 last && decide (s < r.day)) := by
      rw [Bool.eq_iff_iff]; simp only [inB, Bool.and_eq_true, decide_eq_true_eq]; omega
    rw [e2]
    cases hb : inB r.day 0 last with
    | false => simp
    | true =>
      cases hc : inB r.pence 0 100 with
      | false => simp
      | true =>
        cases hd : decide (s < r.day) with
        | false => simp
        | true =>
          simp only [inB, Bool.and_eq_true, decide_eq_true_eq] at hb
          have := rates_all hlast l r.day (by omega) (by omega)
          simp only [if_true, Bool.and_self, Bool.true_and]; exact this
theorem t62 {a : Acc} (h : ∀ e ∈ a.entries, inR e.lo = true ∧ inR e.hi = true) : Tests (.fn (.func 62) [avA a] []) (fun _ => False) avE a.entries (fun (_ : Unit) _ => True) (fun _ e => ((), isEntry a.last e)) where
  live s os _ := by
    rw [lives_fn_eq]; simp only [livesL_nil, livesL_cons, lives_agg_eq, lives_p_eq, and_self]
  stable _ _ _ _ _ := trivial
  foot _ _ _ _ h := h.elim
  call s x os bd hx _ hcl := by
    refine VCall.mono (vcall_of_pcall (by kernel_rfl) (c62 a x (h x hx).1 (h x hx).2)) ?_
    rintro r os' ⟨rfl, rfl⟩
    exact ⟨rfl, trivial, fun _ _ => rfl⟩
theorem allS_unit {α : Type} {p : α → Bool} : ∀ l : List α, (allS (fun (_ : Unit) x => ((), p x)) () l).2 = l.all p
  | [] => rfl
  | x :: l => by
    simp only [allS, List.all_cons]
    cases h : p x with
    | false => simp
    | true => simpa using allS_unit l
end AM.Try
end
/- The program: the error of an account. -/
section
namespace AM.Try
open Go AM AM.Duty
open Nat renaming reduceLT → sA, reduceAdd → sB, reduceMul → sC, reduceSub → sD, reduceLeDiff → sE, reduceEqDiff → sF, reduceBEq → sG
open Int renaming reduceAdd → sH, reduceSub → sI, reduceMul → sJ, reduceLT → sK, reduceLE → sL, reduceNeg → sM, reduceToNat → sN, reduceEq → sO
set_option maxHeartbeats 4000000
def inE (e : Entry) : Prop := inR e.lo = true ∧ inR e.hi = true
theorem last_of {n : Int} (h : (!inB n 0 11) = false) : n ≤ 11 := by
  simp only [Bool.not_eq_false', inB, Bool.and_eq_true, decide_eq_true_eq] at h; omega
theorem c25 (a : Acc) (hl1 : a.rates.length < 1000000) (hl2 : a.entries.length < 1000000) (hin : ∀ e ∈ a.entries, inR e.lo = true ∧ inR e.hi = true) : PCall Go.Proofs.Try.prog 25 [avA a] (i64 (faultS a)) := by
  refine pcall_mk (v := [65]) (q := []) (N := 70) (rs := [.tmp 2]) Go.Proofs.Try.func25 rfl rfl rfl rfl rfl ?_
  refine awp_seq_k fun K1 hK1 => ?_
  refine awp_ops ?_
  simp (disch := omega) only [amL, sA, ↓reduceIte]
  refine hK1 _ ?_
  refine awp_seq_k fun K2 hK2 => ?_
  refine awp_ops ?_
  simp (disch := omega) only [amL, amT, sA, sB, sF, ↓reduceIte]
  refine hK2 _ ?_
  refine awp_seq_k fun K3 hK3 => ?_
  refine awp_block ?_
  refine awp_seq_k fun K4 hK4 => ?_
  refine awp_ops ?_
  simp (disch := omega) only [amL, amT, sA, sF, ↓reduceIte, reduceCtorEq]
  repeat' first | (refine EG_dec (fun h => ?_) (fun h => ?_) <;> simp (disch := omega) only [h, amL, amT, sA, sF, ↓reduceIte, reduceCtorEq]) | (refine EG_cases (fun h => ?_) (fun h => ?_) <;> simp (disch := omega) only [h, encE_getD, amL, amT, sA, sB, sC, sD, sE, sF, sG, sH, sI, sJ, sK, sL, sM, sN, sO, ↓reduceIte, reduceCtorEq])
  all_goals
   skip
   refine hK4 _ ?_
   refine awp_cond rfl (fun h => ?_) (fun h => ?_)
   ·first
    | exact Bool.noConfusion h
    |skip
     try simp only [decide_eq_true_eq] at h
     refine awp_seq_k fun K5 hK5 => ?_
     refine awp_ops ?_
     simp (disch := omega) only [amL, sA]
     refine hK5 _ ?_
     refine awp_ret ?_
     try simp (disch := omega) only [amL, ↓reduceIte]
     all_goals first | ((have e : k = a.entries.length := by omega); subst e; rw [List.take_length] at h; rw [faultS, if_neg (by omega), if_neg (by first | (simp_all; done) | fail), if_neg (by rw [hr]; simp), if_neg (by rw [he]; simp)]; first | rw [if_pos h]; done | rw [if_neg h]; done) | rw [faultS, if_pos (by omega)]; done | rw [faultS, if_neg (by omega), if_pos (by first | (simp_all; done) | fail)]; done | rw [faultS, if_neg (by omega), if_neg (by first | (simp_all; done) | fail), if_neg (by first | (simp_all; done) | fail), if_neg (by first | (simp_all; done) | fail), if_pos (by first | (simp_all; done) | fail)]; done | rw [faultS, if_neg (by omega), if_neg (by first | (simp_all; done) | fail), if_neg (by first | (simp_all; done) | fail), if_neg (by first | (simp_all; done) | fail), if_neg (by first | (simp_all; done) | fail)]; done | (have hr := rates_all (last_of (by assumption)) a.rates (-1) (by omega) (by omega); rw [faultS, if_neg (by omega), if_neg (by first | (simp_all; done) | fail), if_pos (by rw [← hr]; first | (simp_all; done) | fail)]; done) | (have hr := rates_all (last_of (by assumption)) a.rates (-1) (by omega) (by omega); have hu := allS_unit (p := isEntry a.last) a.entries; rw [faultS, if_neg (by omega), if_neg (by first | (simp_all; done) | fail), if_neg (by rw [← hr]; first | (simp_all; done) | fail), if_pos (by rw [← hu]; first | (simp_all; done) | fail)]; done) | (omega)
   ·first
    | exact Bool.noConfusion h
    |skip
     try simp only [decide_eq_false_iff_not] at h
     refine awp_seq_k fun K6 hK6 => ?_
     refine awp_ops ?_
     simp (disch := omega) only [amL, amT, sA, sF, sG, ↓reduceIte, reduceCtorEq]
     repeat' first | (refine EG_dec (fun h => ?_) (fun h => ?_) <;> simp (disch := omega) only [h, encE_getD, amL, amT, sA, sB, sC, sD, sE, sF, sG, sH, sI, sJ, sK, sL, sM, sN, sO, ↓reduceIte, reduceCtorEq]) | (refine EG_cases (fun h => ?_) (fun h => ?_) <;> simp (disch := omega) only [h, amL, amT, sA, sB, sF, sG, sM, ↓reduceIte, reduceCtorEq]) | (refine EC_intro (by kernel_rfl) rfl (c63 _ _ _) (by first | exact .inl rfl | exact .inr (.inl rfl)) ?_ ; simp (disch := omega) only [amL, sA, sF, ↓reduceIte]) | (refine EC_intro (by kernel_rfl) rfl (c64 a hl1) (by first | exact .inl rfl | exact .inr (.inl rfl)) ?_ ; simp (disch := omega) only [amL, sA, sF, sM, ↓reduceIte])
     all_goals try (refine EV_intro2 [(1, .ptr 1 0), (48, bl false)] (by decide) (c65 (bd := 70) hl2 (t62 hin) (fun m hm => by simp [AV.clean, AV.clean.cleanL] at hm) (s := ()) trivial) (T_get_none rfl) (by decide) (fun res os2 hR hcl2 hlv2 => ?_); obtain ⟨rfl, _, hfr2⟩ := hR; obtain rfl : os2 = _ := funext fun n => hfr2 n id; simp (disch := omega) only [amL, sA, sF, sM, ↓reduceIte])
     all_goals
      skip
      refine hK6 _ ?_
      refine awp_cond rfl (fun h => ?_) (fun h => ?_)
      ·first
       | exact Bool.noConfusion h
       |skip
        try simp only [Bool.not_eq_true'] at h
        refine awp_seq_k fun K7 hK7 => ?_
        refine awp_ops ?_
        simp (disch := omega) only [amL, sA, sM]
        refine hK7 _ ?_
        refine awp_ret ?_
        try simp (disch := omega) only [amL, sM, ↓reduceIte]
        all_goals first | ((have e : k = a.entries.length := by omega); subst e; rw [List.take_length] at h; rw [faultS, if_neg (by omega), if_neg (by first | (simp_all; done) | fail), if_neg (by rw [hr]; simp), if_neg (by rw [he]; simp)]; first | rw [if_pos h]; done | rw [if_neg h]; done) | rw [faultS, if_pos (by omega)]; done | rw [faultS, if_neg (by omega), if_pos (by first | (simp_all; done) | fail)]; done | rw [faultS, if_neg (by omega), if_neg (by first | (simp_all; done) | fail), if_neg (by first | (simp_all; done) | fail), if_neg (by first | (simp_all; done) | fail), if_pos (by first | (simp_all; done) | fail)]; done | rw [faultS, if_neg (by omega), if_neg (by first | (simp_all; done) | fail), if_neg (by first | (simp_all; done) | fail), if_neg (by first | (simp_all; done) | fail), if_neg (by first | (simp_all; done) | fail)]; done | (have hr := rates_all (last_of (by assumption)) a.rates (-1) (by omega) (by omega); rw [faultS, if_neg (by omega), if_neg (by first | (simp_all; done) | fail), if_pos (by rw [← hr]; first | (simp_all; done) | fail)]; done) | (have hr := rates_all (last_of (by assumption)) a.rates (-1) (by omega) (by omega); have hu := allS_unit (p := isEntry a.last) a.entries; rw [faultS, if_neg (by omega), if_neg (by first | (simp_all; done) | fail), if_neg (by rw [← hr]; first | (simp_all; done) | fail), if_pos (by rw [← hu]; first | (simp_all; done) | fail)]; done) | (omega)
      ·first
       | exact Bool.noConfusion h
       |skip
        try simp only [Bool.not_eq_false'] at h
        refine awp_skip ?_
        refine hK3 _ ?_
        refine awp_seq_k fun K8 hK8 => ?_
        refine awp_ops ?_
        have hlast : a.last ≤ 11 := last_of (by assumption)
        have hr : ratesS a.last (-1) a.rates = true := by rw [← rates_all hlast _ _ (by omega) (by omega)]; simp_all
        have he : a.entries.all (isEntry a.last) = true := by rw [← allS_unit]; simp_all
        have hsm := small_of_all (by omega) he
        simp (disch := omega) only [amL, sA]
        refine hK8 _ ?_
        refine awp_seq_k fun K9 hK9 => ?_
        refine awp_seq_k fun K10 hK10 => ?_
        refine awp_ops ?_
        simp (disch := omega) only [amL, amT, sA, sF, ↓reduceIte, reduceCtorEq]
        refine hK10 _ ?_
        refine awp_block ?_
        skip
        refine awp_loop_k (α := Nat) (fun k => ⟨T [(4, i64 (sizes (a.entries.take k))), (56, .p (.sl (a.entries.map encE))), (57, i64 a.entries.length), (58, i64 k)], O []⟩) (fun k => a.entries.length - k) (fun k => k ≤ a.entries.length) 0 ?_ ?_ (fun k hx11 K11 hK11 => ?_)
        · simp
        · refine le_mk ?_ ?_ ?_ ?_ <;> (try simp (disch := omega) only [amL, sF, ↓reduceIte]) <;> rfl
        have hb := sizes_lt hsm hx11
        refine awp_seq_k fun K12 hK12 => ?_
        refine awp_ops ?_
        simp (disch := omega) only [amL, amT, sA, sF, ↓reduceIte]
        refine hK12 _ ?_
        refine awp_seq_k fun K13 hK13 => ?_
        refine awp_cond rfl (fun h => ?_) (fun h => ?_)
        ·first
         | exact Bool.noConfusion h
         |skip
          try simp only [decide_eq_true_eq] at h
          refine awp_skip ?_
          refine hK13 _ ?_
          refine awp_seq_k fun K14 hK14 => ?_
          refine awp_block ?_
          refine awp_seq_k fun K15 hK15 => ?_
          refine awp_ops ?_
          simp (disch := omega) only [encE_getD, amL, amT, sA, sB, sF, ↓reduceIte]
          refine hK15 _ ?_
          refine awp_ops ?_
          have hk : k < a.entries.length := by omega
          obtain ⟨e1, e2, e3⟩ := hsm.2 k hk
          have hb2 := sizes_lt hsm (show k + 1 ≤ a.entries.length by omega)
          rw [sizes_take hk] at hb2
          have hw := mul_size hb2.1 hb2.2
          have e4 : -9223372036854775808 ≤ (getE a.entries k).hi - (getE a.entries k).lo := by omega
          have e5 : (getE a.entries k).hi - (getE a.entries k).lo < 9223372036854775807 := by omega
          simp (disch := omega) only [amL, amT, sA, sB, sE, sF, sG, ↓reduceIte, reduceCtorEq]
          repeat' first | (refine EC_intro (by kernel_rfl) rfl (c66 _ _ e4 e5) (by first | exact .inl rfl | exact .inr (.inl rfl)) ?_ ; simp (disch := omega) only [hw, amL, amT, sA, sF, ↓reduceIte])
          refine hK14 _ ?_
          refine awp_ops ?_
          simp (disch := omega) only [amL, amT, sA, sF, ↓reduceIte]
          refine hK11 (k+1) _ ?_ ?_ (le_mk ?_ ?_ ?_ ?_)
          all_goals (try simp (disch := omega) only [amL, sF, ↓reduceIte])
          all_goals first | omega | rw [sizes_take hk]
        ·first
         | exact Bool.noConfusion h
         |skip
          try simp only [decide_eq_false_iff_not] at h
          refine awp_exit ?_
          refine hK9 _ ?_
          refine awp_seq_k fun K16 hK16 => ?_
          refine awp_seq_k fun K17 hK17 => ?_
          refine awp_ops ?_
          simp (disch := omega) only [amL, amT, sA, sF, ↓reduceIte]
          refine hK17 _ ?_
          refine awp_cond rfl (fun h => ?_) (fun h => ?_)
          ·first
           | exact Bool.noConfusion h
           |skip
            try simp only [decide_eq_true_eq] at h
            refine awp_seq_k fun K18 hK18 => ?_
            refine awp_ops ?_
            simp (disch := omega) only [amL, sA]
            refine hK18 _ ?_
            refine awp_ret ?_
            try simp (disch := omega) only [amL, ↓reduceIte]
            all_goals first | ((have e : k = a.entries.length := by omega); subst e; rw [List.take_length] at h; rw [faultS, if_neg (by omega), if_neg (by first | (simp_all; done) | fail), if_neg (by rw [hr]; simp), if_neg (by rw [he]; simp)]; first | rw [if_pos h]; done | rw [if_neg h]; done) | rw [faultS, if_pos (by omega)]; done | rw [faultS, if_neg (by omega), if_pos (by first | (simp_all; done) | fail)]; done | rw [faultS, if_neg (by omega), if_neg (by first | (simp_all; done) | fail), if_neg (by first | (simp_all; done) | fail), if_neg (by first | (simp_all; done) | fail), if_pos (by first | (simp_all; done) | fail)]; done | rw [faultS, if_neg (by omega), if_neg (by first | (simp_all; done) | fail), if_neg (by first | (simp_all; done) | fail), if_neg (by first | (simp_all; done) | fail), if_neg (by first | (simp_all; done) | fail)]; done | (have hr := rates_all (last_of (by assumption)) a.rates (-1) (by omega) (by omega); rw [faultS, if_neg (by omega), if_neg (by first | (simp_all; done) | fail), if_pos (by rw [← hr]; first | (simp_all; done) | fail)]; done) | (have hr := rates_all (last_of (by assumption)) a.rates (-1) (by omega) (by omega); have hu := allS_unit (p := isEntry a.last) a.entries; rw [faultS, if_neg (by omega), if_neg (by first | (simp_all; done) | fail), if_neg (by rw [← hr]; first | (simp_all; done) | fail), if_pos (by rw [← hu]; first | (simp_all; done) | fail)]; done) | (omega)
          ·first
           | exact Bool.noConfusion h
           |skip
            try simp only [decide_eq_false_iff_not] at h
            refine awp_skip ?_
            refine hK16 _ ?_
            refine awp_seq_k fun K19 hK19 => ?_
            refine awp_ops ?_
            simp (disch := omega) only [amL, sA]
            refine hK19 _ ?_
            refine awp_ret ?_
            try simp (disch := omega) only [amL, ↓reduceIte]
            all_goals first | ((have e : k = a.entries.length := by omega); subst e; rw [List.take_length] at h; rw [faultS, if_neg (by omega), if_neg (by first | (simp_all; done) | fail), if_neg (by rw [hr]; simp), if_neg (by rw [he]; simp)]; first | rw [if_pos h]; done | rw [if_neg h]; done) | rw [faultS, if_pos (by omega)]; done | rw [faultS, if_neg (by omega), if_pos (by first | (simp_all; done) | fail)]; done | rw [faultS, if_neg (by omega), if_neg (by first | (simp_all; done) | fail), if_neg (by first | (simp_all; done) | fail), if_neg (by first | (simp_all; done) | fail), if_pos (by first | (simp_all; done) | fail)]; done | rw [faultS, if_neg (by omega), if_neg (by first | (simp_all; done) | fail), if_neg (by first | (simp_all; done) | fail), if_neg (by first | (simp_all; done) | fail), if_neg (by first | (simp_all; done) | fail)]; done | (have hr := rates_all (last_of (by assumption)) a.rates (-1) (by omega) (by omega); rw [faultS, if_neg (by omega), if_neg (by first | (simp_all; done) | fail), if_pos (by rw [← hr]; first | (simp_all; done) | fail)]; done) | (have hr := rates_all (last_of (by assumption)) a.rates (-1) (by omega) (by omega); have hu := allS_unit (p := isEntry a.last) a.entries; rw [faultS, if_neg (by omega), if_neg (by first | (simp_all; done) | fail), if_neg (by rw [← hr]; first | (simp_all; done) | fail), if_pos (by rw [← hu]; first | (simp_all; done) | fail)]; done) | (omega)
end AM.Try
end
/- The program: where a number is in a list; an account at work. -/
section
namespace AM.Try
open Go AM AM.Duty
open Nat renaming reduceLT → sA, reduceAdd → sB, reduceMul → sC, reduceSub → sD, reduceLeDiff → sE, reduceEqDiff → sF, reduceBEq → sG
open Int renaming reduceAdd → sH, reduceSub → sI, reduceMul → sJ, reduceLT → sK, reduceLE → sL, reduceNeg → sM, reduceToNat → sN, reduceEq → sO
set_option maxHeartbeats 8000000
def idx (x : Int) : List Int → Nat → Int
  | [], _ => -1
  | y :: l, k => if x = y then k else idx x l (k + 1)
theorem idx_step {x : Int} {l : List Int} {k : Nat} (h : k < l.length) : idx x (l.drop k) k = if x = l.getD k 0 then (k : Int) else idx x (l.drop (k + 1)) (k + 1) := by
  rw [drop_getD (d := 0) h]; rfl
theorem idx_end {x : Int} {l : List Int} {k : Nat} (h : l.length ≤ k) : idx x (l.drop k) k = -1 := by rw [List.drop_of_length_le h]; rfl
theorem c103 (l : List Int) (x : Int) (hl : l.length < 1000000) : PCall Go.Proofs.Try.prog 103 [isl l, i64 x] (i64 (idx x l 0)) := by
  refine pcall_mk (v := []) (q := []) (N := 19) (rs := [.tmp 4]) Go.Proofs.Try.func103 rfl rfl rfl rfl rfl ?_
  refine awp_seq_k fun K1 hK1 => ?_
  refine awp_ops ?_
  simp (disch := omega) only [amL, sA, sB]
  refine hK1 _ ?_
  refine awp_seq_k fun K2 hK2 => ?_
  refine awp_seq_k fun K3 hK3 => ?_
  refine awp_ops ?_
  simp (disch := omega) only [amL, amT, sA, ↓reduceIte, reduceCtorEq]
  refine hK3 _ ?_
  refine awp_block ?_
  skip
  refine awp_loop_k (α := Nat) (fun k => ⟨T [(0, isl l), (1, i64 x), (7, i64 l.length), (8, i64 k)], O []⟩) (fun k => l.length - k) (fun k => k ≤ l.length ∧ idx x (l.drop k) k = idx x l 0) 0 ?_ ?_ (fun k hx4 K4 hK4 => ?_)
  · simp
  · refine le_mk ?_ ?_ ?_ ?_ <;> (try simp (disch := omega) only [amL, sF, ↓reduceIte, reduceCtorEq])
  obtain ⟨hk, hn⟩ := hx4
  refine awp_seq_k fun K5 hK5 => ?_
  refine awp_ops ?_
  simp (disch := omega) only [amL, amT, sA, sF, ↓reduceIte, reduceCtorEq]
  refine hK5 _ ?_
  refine awp_seq_k fun K6 hK6 => ?_
  refine awp_cond rfl (fun h => ?_) (fun h => ?_)
  ·first
   | exact Bool.noConfusion h
   |skip
    try simp only [decide_eq_true_eq] at h
    refine awp_skip ?_
    refine hK6 _ ?_
    refine awp_seq_k fun K7 hK7 => ?_
    refine awp_block ?_
    refine awp_seq_k fun K8 hK8 => ?_
    refine awp_ops ?_
    simp (disch := omega) only [amL, sA, sF, ↓reduceIte, reduceCtorEq]
    refine hK8 _ ?_
    refine awp_seq_k fun K9 hK9 => ?_
    refine awp_ops ?_
    simp (disch := omega) only [amL, amT, sA, sF, ↓reduceIte, reduceCtorEq]
    refine hK9 _ ?_
    refine awp_cond rfl (fun h => ?_) (fun h => ?_)
    ·first
     | exact Bool.noConfusion h
     |skip
      try simp only [decide_eq_true_eq] at h
      refine awp_seq_k fun K10 hK10 => ?_
      refine awp_ops ?_
      simp (disch := omega) only [amL, sA, sF, ↓reduceIte]
      refine hK10 _ ?_
      refine awp_ret ?_
      try simp (disch := omega) only [amL, ↓reduceIte]
      first | (rw [← hn, idx_step (by omega), if_pos h]; done) | (rw [← hn, idx_end (by omega)]; done)
    ·first
     | exact Bool.noConfusion h
     |skip
      try simp only [decide_eq_false_iff_not] at h
      refine awp_skip ?_
      refine hK7 _ ?_
      refine awp_ops ?_
      simp (disch := omega) only [amL, amT, sA, sF, ↓reduceIte, reduceCtorEq]
      refine hK4 (k+1) _ ?_ ?_ (le_mk ?_ ?_ ?_ ?_)
      all_goals (try simp (disch := omega) only [amL, sF, ↓reduceIte, reduceCtorEq])
      all_goals first | omega | exact ⟨by omega, by rw [idx_step (by omega), if_neg h] at hn; exact hn⟩
  ·first
   | exact Bool.noConfusion h
   |skip
    try simp only [decide_eq_false_iff_not] at h
    refine awp_exit ?_
    refine hK2 _ ?_
    refine awp_seq_k fun K11 hK11 => ?_
    refine awp_ops ?_
    simp (disch := omega) only [amL, sA, sM]
    refine hK11 _ ?_
    refine awp_ret ?_
    try simp (disch := omega) only [amL, sM, ↓reduceIte]
    first | (rw [← hn, idx_step (by omega), if_pos h]; done) | (rw [← hn, idx_end (by omega)]; done)
theorem idx_mem (x : Int) : ∀ (l : List Int) (k : Nat), decide (0 ≤ idx x l k) = decide (x ∈ l)
  | [], k => by simp [idx]
  | y :: l, k => by
    simp only [idx]
    split
    · rename_i e; subst e; simp
    · rename_i e; rw [idx_mem x l (k + 1)]; simp [e]
theorem c83 (l : List Int) (x : Int) (hl : l.length < 1000000) : PCall Go.Proofs.Try.prog 83 [isl l, i64 x] (bl (decide (x ∈ l))) := by
  refine pcall_mk (v := []) (q := []) (N := 9) (rs := [.tmp 4]) Go.Proofs.Try.func83 rfl rfl rfl rfl rfl ?_
  refine awp_seq_k fun K1 hK1 => ?_
  refine awp_ops ?_
  simp (disch := omega) only [amL, sA, sB]
  refine hK1 _ ?_
  refine awp_seq_k fun K2 hK2 => ?_
  refine awp_ops ?_
  simp (disch := omega) only [amL, sA, sF, ↓reduceIte, reduceCtorEq]
  repeat' first | (refine EC_intro (by kernel_rfl) rfl (c103 l x hl) (by first | exact .inl rfl | exact .inr (.inl rfl)) ?_ ; simp (disch := omega) only [amL, amT, sA, ↓reduceIte])
  refine hK2 _ ?_
  refine awp_ret ?_
  try simp (disch := omega) only [amL, ↓reduceIte]
  try rw [idx_mem]
set_option maxRecDepth 100000 in
theorem key123 : KeyOk Go.Proofs.Try.prog 123 6 := keyOk_of (by kernel_rfl)
theorem zero3 : ∀ w, (zeroValue 3).run Go.Proofs.Try.prog w = .ok (.int .i64 0) w := fun w => by
  have h : (Go.Proofs.Try.prog.info? 3).map (fun i => i.zero) = some (some (.int .i64 0)) := by kernel_rfl
  cases hi : Go.Proofs.Try.prog.info? 3 with
  | none => rw [hi] at h; cases h
  | some i =>
    rw [hi] at h
    have hz : i.zero = some (.int .i64 0) := by simpa using h
    simp [zeroValue, typeInfo, hi, hz]
def worthS (rates : List Rate) : List Int → Int
  | [_, day, _, _, _, u] => IntKind.wrap .i64 (u * rateOn day rates 0)
  | _ => 0
abbrev cW (a : Acc) (d u : Int) (m : Nat) : List AV := [i64 a.last, i64 a.interest, i64 a.bond, i64 a.purse, .p (.sl (a.rates.map encR)), .p (.sl (a.entries.map encE)), i64 d, i64 u, .mp m]
abbrev avM (e : Entry) (u : Int) : AV := .agg [i64 e.kind, i64 e.day, i64 e.lo, i64 e.hi, i64 e.pence, i64 u]
abbrev kM (e : Entry) (u : Int) : List Int := [e.kind, e.day, e.lo, e.hi, e.pence, u]
theorem intsOf6 {e : Entry} {u : Int} : intsOf [i64 e.kind, i64 e.day, i64 e.lo, i64 e.hi, i64 e.pence, i64 u] = some (kM e u) := rfl
theorem sub_upd1 {os : Nat → Option AO} {m : Nat} {y : Option AO} (hm : os m = none) : Sub os (upd os m y) := fun k => by
  by_cases e2 : k = m
  · subst e2; left; exact hm
  · right; rw [upd_ne e2]
theorem c113 {a : Acc} {d u : Int} {w m : Nat} {os : Nat → Option AO} {e : Entry} {n : Int} {bd : Nat} (hl : a.rates.length < 1000000) (hr : (kM e n).all inR = true) (hw : os w = some (.cells (cW a d u m))) (hm : os m = some (.obj (MemoO 6 (worthS a.rates)))) :
    VCall Go.Proofs.Try.prog bd (.fn (.func 113) [] []) [.ptr w 0, avM e n] os fun res os' => res = i64 (worthS a.rates (kM e n)) ∧ os' = os := by
  refine vcall_mk (v := []) (q := []) (N := 36) (rs := [.tmp 4]) Go.Proofs.Try.func113 rfl (by kernel_rfl) rfl rfl (fun hcl hfree => ?_)
  have hfr0 : ∀ k, os (bd + k) = none := fun k => hfree _ (by omega)
  have hwb := lt_of_live hfree hw
  have hmb := lt_of_live hfree hm
  refine awp_seq_k fun K1 hK1 => ?_
  refine awp_ops ?_
  simp (disch := omega) only [hfr0, amL, sA, sB, ↓reduceIte, reduceCtorEq]
  refine hK1 _ ?_
  refine awp_seq_k fun K2 hK2 => ?_
  refine awp_any2 (by kernel_rfl) (by kernel_rfl) ?_
  simp (disch := omega) only [hw, upd_ne, amL, amT, sA, sB, sF, ↓reduceIte, reduceCtorEq]
  refine EMl_intro rfl (by rw [ty114]) zero3 key123 ((upd_ne (by omega)).trans hm) intsOf6 rfl hr ?_ ?_ <;> simp (disch := omega) only [amL, sA, sF, ↓reduceIte]
  all_goals
   skip
   refine hK2 _ ?_
   refine awp_seq_k fun K3 hK3 => ?_
   refine awp_seq_k fun K4 hK4 => ?_
   refine awp_ops ?_
   simp (disch := omega) only [amL, sA, ↓reduceIte]
   refine hK4 _ ?_
   refine awp_cond rfl (fun h => ?_) (fun h => ?_)
   ·first
    | exact Bool.noConfusion h
    |skip
     try simp only [] at h
     refine awp_seq_k fun K5 hK5 => ?_
     refine awp_any2 (by kernel_rfl) (by kernel_rfl) ?_
     simp (disch := omega) only [hw, upd_ne, amL, amT, sA, sB, sE, sF, ↓reduceIte, reduceCtorEq]
     repeat' first | (refine EC_intro (by kernel_rfl) rfl (c117 a _ hl) (by first | exact .inl rfl | exact .inr (.inl rfl)) ?_ ; simp (disch := omega) only [amL, amT, sA, sF, ↓reduceIte])
     refine hK5 _ ?_
     refine awp_any2 (by kernel_rfl) (by kernel_rfl) ?_
     simp (disch := omega) only [hw, upd_ne, amL, amT, sA, sB, sF, ↓reduceIte, reduceCtorEq]
     all_goals (refine EMu_intro (by rw [ty114]) key123 ((upd_ne (by omega)).trans hm) intsOf6 rfl hr rfl ?_ ; simp (disch := omega) only [amL])
     all_goals
      skip
      refine hK3 _ ?_
      refine awp_seq_k fun K6 hK6 => ?_
      refine awp_ops ?_
      simp (disch := omega) only [amL, sA, sF, ↓reduceIte]
      refine hK6 _ ?_
      refine awp_ret ?_
      try simp (disch := omega) only [amL]
      refine retV_mk (res := i64 _) os (by simp (disch := omega) only [amL, ↓reduceIte]; try rfl) (sub_upd1 (hfr0 _)) hcl (AV.lives_p _ _) ⟨rfl, rfl⟩
   ·first
    | exact Bool.noConfusion h
    |skip
     try simp only [] at h
     refine awp_skip ?_
     refine hK3 _ ?_
     refine awp_seq_k fun K7 hK7 => ?_
     refine awp_ops ?_
     simp (disch := omega) only [amL, sA, sF, ↓reduceIte]
     refine hK7 _ ?_
     refine awp_ret ?_
     try simp (disch := omega) only [amL]
     refine retV_mk (res := i64 _) os (by simp (disch := omega) only [amL, ↓reduceIte]; try rfl) (sub_upd1 (hfr0 _)) hcl (AV.lives_p _ _) ⟨rfl, rfl⟩
theorem closed_cW {a : Acc} {d u d' u' : Int} {w m : Nat} {os : Nat → Option AO} {X : Obj → Prop} (hcl : (Hp os).closed) (hw : os w = some (.cells (cW a d u m))) (hm : os m = some (.obj X)) : (Hp (upd os w (some (.cells (cW a d' u' m))))).closed := closed_upd hcl (by
  rw [lives_cells_eq]; simp only [livesL_nil, livesL_cons, lives_p_eq, lives_mp_eq, true_and, and_true]
  by_cases e : m = w
  · subst e; rw [upd_eq]; rfl
  · rw [upd_ne e, hm]; rfl)
theorem c99 {a : Acc} {d u : Int} {w m : Nat} {os : Nat → Option AO} {e : Entry} {n : Int} {bd : Nat} (hl : a.rates.length < 1000000) (hr : (kM e n).all inR = true) (hb1 : -1000000000000000000 ≤ d ∧ d ≤ 1000000000000000000) (hb2 : -1000000000000000000 ≤ worthS a.rates (kM e n) ∧ worthS a.rates (kM e n) ≤ 1000000000000000000) (hb3 : -1000000000000000000 ≤ u ∧ u ≤ 1000000000000000000) (hb4 : -1000000000000000000 ≤ n ∧ n ≤ 1000000000000000000) (hw : os w = some (.cells (cW a d u m))) (hm : os m = some (.obj (MemoO 6 (worthS a.rates)))) :
    VCall Go.Proofs.Try.prog bd (.fn (.func 99) [] []) [.ptr w 0, avM e n] os fun res os' => res = bl (true) ∧ os' = upd os w (some (.cells (cW a (d + worthS a.rates (kM e n)) (u + n) m))) := by
  refine vcall_mk (v := [113]) (q := [113]) (N := 24) (rs := [.tmp 4]) Go.Proofs.Try.func99 rfl (by kernel_rfl) rfl rfl (fun hcl hfree => ?_)
  have hfr0 : ∀ k, os (bd + k) = none := fun k => hfree _ (by omega)
  have hwb := lt_of_live hfree hw
  have hmb := lt_of_live hfree hm
  refine awp_seq_k fun K1 hK1 => ?_
  refine awp_ops ?_
  simp (disch := omega) only [hfr0, amL, sA, sB, ↓reduceIte, reduceCtorEq]
  refine hK1 _ ?_
  refine awp_seq_k fun K2 hK2 => ?_
  refine awp_any3 [] (by kernel_rfl) (by kernel_rfl) ?_
  simp (disch := omega) only [hw, upd_ne, amL, amT, sA, sB, sF, ↓reduceIte, reduceCtorEq]
  refine EQ_intro (bd := bd + 24) (by decide) (c113 (d := d) (u := u) (w := w) (m := m) (e := e) (n := n) hl hr ((upd_ne (by omega)).trans hw) ((upd_ne (by omega)).trans hm)) (fun n hn => (upd_ne (by omega)).trans (hfree n (by omega))) (by simp only []; omega) rfl ?_
  simp (disch := omega) only [hw, upd_ne, amL, amT, sA, sB, sE, sF, ↓reduceIte, reduceCtorEq]
  refine hK2 _ ?_
  refine awp_seq_k fun K3 hK3 => ?_
  refine awp_any2 (by kernel_rfl) (by kernel_rfl) ?_
  simp (disch := omega) only [upd_ne, upd_upd, amL, amT, sA, sB, sE, sF, ↓reduceIte, reduceCtorEq]
  refine hK3 _ ?_
  refine awp_seq_k fun K4 hK4 => ?_
  refine awp_ops ?_
  simp (disch := omega) only [amL, sA]
  refine hK4 _ ?_
  refine awp_ret ?_
  try simp (disch := omega) only [amL]
  refine retV_mk (res := bl _) (upd os w (some (.cells (cW a (d + worthS a.rates (kM e n)) (u + n) m)))) (by simp (disch := omega) only [amL, ↓reduceIte]; try rfl) (sub_upd2 (hfr0 _) (by omega)) (closed_cW hcl hw hm) (AV.lives_p _ _) ⟨rfl, rfl⟩
theorem c101 {a : Acc} {d u : Int} {w m : Nat} {os : Nat → Option AO} {e : Entry} {n : Int} {bd : Nat} (hl : a.rates.length < 1000000) (hr : (kM e n).all inR = true) (hb1 : -1000000000000000000 ≤ d ∧ d ≤ 1000000000000000000) (hb2 : -1000000000000000000 ≤ worthS a.rates (kM e n) ∧ worthS a.rates (kM e n) ≤ 1000000000000000000) (hb3 : -1000000000000000000 ≤ u ∧ u ≤ 1000000000000000000) (hb4 : -1000000000000000000 ≤ n ∧ n ≤ 1000000000000000000) (hw : os w = some (.cells (cW a d u m))) (hm : os m = some (.obj (MemoO 6 (worthS a.rates)))) :
    VCall Go.Proofs.Try.prog bd (.fn (.func 101) [] []) [.ptr w 0, avM e n] os fun res os' => res = bl (decide (0 ≤ u - n)) ∧ os' = upd os w (some (.cells (cW a (d - worthS a.rates (kM e n)) (u - n) m))) := by
  refine vcall_mk (v := [113]) (q := [113]) (N := 29) (rs := [.tmp 4]) Go.Proofs.Try.func101 rfl (by kernel_rfl) rfl rfl (fun hcl hfree => ?_)
  have hfr0 : ∀ k, os (bd + k) = none := fun k => hfree _ (by omega)
  have hwb := lt_of_live hfree hw
  have hmb := lt_of_live hfree hm
  refine awp_seq_k fun K1 hK1 => ?_
  refine awp_ops ?_
  simp (disch := omega) only [hfr0, amL, sA, sB, ↓reduceIte, reduceCtorEq]
  refine hK1 _ ?_
  refine awp_seq_k fun K2 hK2 => ?_
  refine awp_any3 [] (by kernel_rfl) (by kernel_rfl) ?_
  simp (disch := omega) only [hw, upd_ne, amL, amT, sA, sB, sF, ↓reduceIte, reduceCtorEq]
  refine EQ_intro (bd := bd + 29) (by decide) (c113 (d := d) (u := u) (w := w) (m := m) (e := e) (n := n) hl hr ((upd_ne (by omega)).trans hw) ((upd_ne (by omega)).trans hm)) (fun n hn => (upd_ne (by omega)).trans (hfree n (by omega))) (by simp only []; omega) rfl ?_
  simp (disch := omega) only [hw, upd_ne, amL, amT, sA, sB, sE, sF, ↓reduceIte, reduceCtorEq]
  refine hK2 _ ?_
  refine awp_seq_k fun K3 hK3 => ?_
  refine awp_any2 (by kernel_rfl) (by kernel_rfl) ?_
  simp (disch := omega) only [upd_ne, upd_upd, amL, amT, sA, sB, sE, sF, ↓reduceIte, reduceCtorEq]
  refine hK3 _ ?_
  refine awp_seq_k fun K4 hK4 => ?_
  refine awp_ops ?_
  simp (disch := omega) only [amL, amT, sA, ↓reduceIte, reduceCtorEq]
  refine hK4 _ ?_
  refine awp_ret ?_
  try simp (disch := omega) only [amL]
  refine retV_mk (res := bl _) (upd os w (some (.cells (cW a (d - worthS a.rates (kM e n)) (u - n) m)))) (by simp (disch := omega) only [amL, ↓reduceIte]; try rfl) (sub_upd2 (hfr0 _) (by omega)) (closed_cW hcl hw hm) (AV.lives_p _ _) ⟨rfl, rfl⟩
theorem c100 {a : Acc} {d u : Int} {w m : Nat} {os : Nat → Option AO} {e : Entry} {n : Int} {bd : Nat} (hb1 : -1000000000000000000 ≤ d ∧ d ≤ 1000000000000000000) (hb2 : -1000000000000000000 ≤ e.pence ∧ e.pence ≤ 1000000000000000000) (hw : os w = some (.cells (cW a d u m))) (hm : os m = some (.obj (MemoO 6 (worthS a.rates)))) :
    VCall Go.Proofs.Try.prog bd (.fn (.func 100) [] []) [.ptr w 0, avM e n] os fun res os' => res = bl (true) ∧ os' = upd os w (some (.cells (cW a (d - e.pence) u m))) := by
  refine vcall_mk (v := []) (q := []) (N := 15) (rs := [.tmp 4]) Go.Proofs.Try.func100 rfl (by kernel_rfl) rfl rfl (fun hcl hfree => ?_)
  have hfr0 : ∀ k, os (bd + k) = none := fun k => hfree _ (by omega)
  have hwb := lt_of_live hfree hw
  have hmb := lt_of_live hfree hm
  refine awp_seq_k fun K1 hK1 => ?_
  refine awp_ops ?_
  simp (disch := omega) only [hfr0, amL, sA, sB, ↓reduceIte, reduceCtorEq]
  refine hK1 _ ?_
  refine awp_seq_k fun K2 hK2 => ?_
  refine awp_any2 (by kernel_rfl) (by kernel_rfl) ?_
  simp (disch := omega) only [hw, upd_ne, amL, amT, sA, sB, sE, sF, ↓reduceIte, reduceCtorEq]
  refine hK2 _ ?_
  refine awp_seq_k fun K3 hK3 => ?_
  refine awp_ops ?_
  simp (disch := omega) only [amL, sA]
  refine hK3 _ ?_
  refine awp_ret ?_
  try simp (disch := omega) only [amL]
  refine retV_mk (res := bl _) (upd os w (some (.cells (cW a (d - e.pence) u m)))) (by simp (disch := omega) only [amL, ↓reduceIte]; try rfl) (sub_upd2 (hfr0 _) (by omega)) (closed_cW hcl hw hm) (AV.lives_p _ _) ⟨rfl, rfl⟩
theorem c102 {a : Acc} {d u : Int} {w m : Nat} {os : Nat → Option AO} {e : Entry} {n : Int} {bd : Nat} (hw : os w = some (.cells (cW a d u m))) (hm : os m = some (.obj (MemoO 6 (worthS a.rates)))) :
    VCall Go.Proofs.Try.prog bd (.fn (.func 102) [] []) [.ptr w 0, avM e n] os fun res os' => res = bl (decide (d = e.pence)) ∧ os' = os := by
  refine vcall_mk (v := []) (q := []) (N := 13) (rs := [.tmp 4]) Go.Proofs.Try.func102 rfl (by kernel_rfl) rfl rfl (fun hcl hfree => ?_)
  have hfr0 : ∀ k, os (bd + k) = none := fun k => hfree _ (by omega)
  have hwb := lt_of_live hfree hw
  have hmb := lt_of_live hfree hm
  refine awp_seq_k fun K1 hK1 => ?_
  refine awp_ops ?_
  simp (disch := omega) only [hfr0, amL, sA, sB, ↓reduceIte, reduceCtorEq]
  refine hK1 _ ?_
  refine awp_seq_k fun K2 hK2 => ?_
  refine awp_any2 (by kernel_rfl) (by kernel_rfl) ?_
  simp (disch := omega) only [hw, upd_ne, amL, amT, sA, sF, ↓reduceIte, reduceCtorEq]
  refine hK2 _ ?_
  refine awp_ret ?_
  try simp (disch := omega) only [amL]
  refine retV_mk (res := bl _) (os) (by simp (disch := omega) only [amL, ↓reduceIte]; try rfl) (sub_upd1 (hfr0 _)) (hcl) (AV.lives_p _ _) ⟨rfl, rfl⟩
theorem c82 : PCall Go.Proofs.Try.prog 82 [] (.agg [.fn (.func 99) [] [], .fn (.func 100) [] [], .fn (.func 101) [] [], .fn (.func 102) [] []]) := by
  refine pcall_mk (v := []) (q := []) (N := 6) (rs := [.cell 0 120]) Go.Proofs.Try.func82 rfl rfl rfl rfl rfl ?_
  refine awp_seq_k fun K1 hK1 => ?_
  refine awp_ops ?_
  simp (disch := omega) only [amL, amT, sA, sB, ↓reduceIte]
  refine hK1 _ ?_
  refine awp_seq_k fun K2 hK2 => ?_
  refine awp_ops ?_
  simp (disch := omega) only [amL, amT, sA, sB, sE, sF, ↓reduceIte, reduceCtorEq]
  refine hK2 _ ?_
  refine awp_ret ?_
  try simp (disch := omega) only [viewC_fn, amL, amT, sB, ↓reduceIte, reduceCtorEq]
  skip
end AM.Try
end
/- The laws' conversions. -/
section
namespace AM.Try
open Go AM AM.Duty
open Nat renaming reduceLT → sA, reduceAdd → sB, reduceMul → sC, reduceSub → sD, reduceLeDiff → sE, reduceEqDiff → sF, reduceBEq → sG
open Int renaming reduceAdd → sH, reduceSub → sI, reduceMul → sJ, reduceLT → sK, reduceLE → sL, reduceNeg → sM, reduceToNat → sN, reduceEq → sO
set_option maxHeartbeats 4000000
theorem isl_all (l : List Int) : ((l.map fun n => [iv n]).all fun c => decide (c.length = 1)) = true := by simp
theorem encR_all (l : List Rate) : ((l.map encR).all fun c => decide (c.length = 2)) = true := by simp
theorem encE_all (l : List Entry) : ((l.map encE).all fun c => decide (c.length = 5)) = true := by simp
theorem c19 (a : Acc) : PCall Go.Proofs.Try.prog 19 [avA a] (bl (decide (a.rates.length ≤ 7) && decide (a.entries.length ≤ 11))) := by
  refine pcall_mk (v := []) (q := []) (N := 13) (rs := [.tmp 2]) Go.Proofs.Try.func19 rfl rfl rfl rfl rfl ?_
  refine awp_seq_k fun K1 hK1 => ?_
  refine awp_ops ?_
  simp (disch := omega) only [amL, sA, ↓reduceIte]
  refine hK1 _ ?_
  refine awp_seq_k fun K2 hK2 => ?_
  refine awp_ops ?_
  simp (disch := omega) only [amL, amT, sA, sF, ↓reduceIte, reduceCtorEq]
  repeat' first | (refine EG_dec (fun h => ?_) (fun h => ?_) <;> simp (disch := omega) only [h, amL, amT, sA, sF, ↓reduceIte, reduceCtorEq]) | (refine EG_cases (fun h => ?_) (fun h => ?_) <;> simp (disch := omega) only [h, amL, amT, sA, sB, sC, sD, sE, sF, sG, sH, sI, sJ, sK, sL, sM, sN, sO, ↓reduceIte, reduceCtorEq])
  all_goals
   skip
   refine hK2 _ ?_
   refine awp_ret ?_
   try simp (disch := omega) only [amL, ↓reduceIte]
   all_goals first | (have e : a.rates.length ≤ 7 := by omega); simp [e]; omega | (have e : ¬ a.rates.length ≤ 7 := by omega); simp [e]
theorem c35 (lo hi : Int) : PCall Go.Proofs.Try.prog 35 [.agg [i64 lo, i64 hi]] (.agg [i64 lo, i64 hi]) := by
  refine pcall_mk (v := []) (q := []) (N := 8) (rs := [.cell 2 54]) Go.Proofs.Try.func35 rfl rfl rfl rfl rfl ?_
  refine awp_seq_k fun K1 hK1 => ?_
  refine awp_ops ?_
  simp (disch := omega) only [amL, amT, sA, sB, sF, ↓reduceIte]
  refine hK1 _ ?_
  refine awp_seq_k fun K2 hK2 => ?_
  refine awp_ops ?_
  simp (disch := omega) only [amL, amT, sA, sB, sE, sF, ↓reduceIte, reduceCtorEq]
  refine hK2 _ ?_
  refine awp_ret ?_
  try simp (disch := omega) only [amL, amT, sB, sF, ↓reduceIte]
  skip
theorem c23 (l : List Int) (hl : l.length < 1000000) : PCall Go.Proofs.Try.prog 23 [isl l] (isl l) := by
  refine pcall_mk (v := []) (q := []) (N := 6) (rs := [.tmp 2]) Go.Proofs.Try.func23 rfl rfl rfl rfl rfl ?_
  refine awp_seq_k fun K1 hK1 => ?_
  refine awp_ops ?_
  simp (disch := omega) only [amL, sA]
  refine hK1 _ ?_
  refine awp_seq_k fun K2 hK2 => ?_
  refine awp_ops ?_
  simp (disch := omega) only [isl_all, amL, amT, sA, sF, ↓reduceIte, reduceCtorEq]
  refine hK2 _ ?_
  refine awp_ret ?_
  try simp (disch := omega) only [amL, ↓reduceIte]
  rw [show l.length = (l.map fun n => [iv n]).length by simp, List.take_length]
theorem take_snoc {α β : Type} (f : α → β) {l : List α} {k : Nat} (d : α) (h : k < l.length) : (l.take (k + 1)).map f = (l.take k).map f ++ [f (l.getD k d)] := by
  rw [List.take_add_one, List.map_append]
  simp [h, List.getD]
theorem c22 (a : Acc) (h1 : a.rates.length < 1000000) (h2 : a.entries.length < 1000000) : PCall Go.Proofs.Try.prog 22 [avA a] (avA a) := by
  refine pcall_mk (v := []) (q := []) (N := 69) (rs := [.cell 2 35]) Go.Proofs.Try.func22 rfl rfl rfl rfl rfl ?_
  refine awp_seq_k fun K1 hK1 => ?_
  refine awp_ops ?_
  simp (disch := omega) only [amL, amT, sA, sB, sF, ↓reduceIte]
  refine hK1 _ ?_
  refine awp_seq_k fun K2 hK2 => ?_
  refine awp_ops ?_
  simp (disch := omega) only [amL, amT, sA, sB, sE, sF, ↓reduceIte, reduceCtorEq]
  refine hK2 _ ?_
  refine awp_seq_k fun K3 hK3 => ?_
  refine awp_seq_k fun K4 hK4 => ?_
  refine awp_ops ?_
  simp (disch := omega) only [amL, sA]
  refine hK4 _ ?_
  refine awp_block ?_
  refine awp_adoptC' 39 2 3 4 (by decide) rfl rfl rfl ?_
  refine awp_loop_k (α := Nat) (fun k => ⟨T [(1, .ptr 1 0), (2, .ptr 2 0), (3, .ptr 3 0), (4, i64 k)], O [(1, .cells (cA a)), (2, .cells [i64 0, i64 0, i64 0, i64 0, .p (.val (.slice none 0 0)), .p (.val (.slice none 0 0))]), (3, .cells [i64 a.last, i64 a.interest, i64 a.bond, i64 a.purse, .own 39 k, .p (.val (.slice none 0 0))]), (39, .arr 2 ((a.rates.take k).map encR))]⟩) (fun k => a.rates.length - k) (fun k => k ≤ a.rates.length) 0 ?_ ?_ (fun k hx5 K5 hK5 => ?_)
  · simp
  · refine le_mk ?_ ?_ ?_ ?_ <;> (try simp (disch := omega) only [amL, sF, sG, ↓reduceIte])
  skip
  refine awp_seq_k fun K6 hK6 => ?_
  refine awp_seq_k fun K7 hK7 => ?_
  refine awp_ops ?_
  simp (disch := omega) only [amL, amT, sA, sF, ↓reduceIte, reduceCtorEq]
  refine hK7 _ ?_
  refine awp_cond rfl (fun h => ?_) (fun h => ?_)
  ·first
   | exact Bool.noConfusion h
   |skip
    try simp only [decide_eq_true_eq] at h
    refine awp_skip ?_
    refine hK6 _ ?_
    refine awp_seq_k fun K8 hK8 => ?_
    refine awp_block ?_
    refine awp_any2 (by kernel_rfl) (by kernel_rfl) ?_
    simp (disch := omega) only [encR_getD, amL, amT, sA, sB, sC, sE, sF, ↓reduceIte, reduceCtorEq]
    refine hK8 _ ?_
    refine awp_ops ?_
    simp (disch := omega) only [amL, amT, sA, sF, ↓reduceIte]
    refine hK5 (k+1) _ ?_ ?_ (le_mk ?_ ?_ ?_ ?_)
    all_goals (try simp (disch := omega) only [amL, sF, sG, ↓reduceIte])
    all_goals first | omega | rw [take_snoc encR default (by omega)]
  ·first
   | exact Bool.noConfusion h
   |skip
    try simp only [decide_eq_false_iff_not] at h
    refine awp_exit ?_
    refine hK3 _ ?_
    refine awp_seq_k fun K9 hK9 => ?_
    refine awp_seq_k fun K10 hK10 => ?_
    refine awp_ops ?_
    simp (disch := omega) only [amL, sA]
    refine hK10 _ ?_
    refine awp_block ?_
    refine awp_adoptC' 66 5 3 5 (by decide) rfl rfl rfl ?_
    refine awp_loop_k (α := Nat) (fun j => ⟨T [(2, .ptr 2 0), (1, .ptr 1 0), (3, .ptr 3 0), (5, i64 j)], O [(1, .cells (cA a)), (2, .cells [i64 0, i64 0, i64 0, i64 0, .p (.val (.slice none 0 0)), .p (.val (.slice none 0 0))]), (3, .cells [i64 a.last, i64 a.interest, i64 a.bond, i64 a.purse, .own 39 k, .own 66 j]), (39, .arr 2 ((a.rates.take k).map encR)), (66, .arr 5 ((a.entries.take j).map encE))]⟩) (fun j => a.entries.length - j) (fun j => j ≤ a.entries.length) 0 ?_ ?_ (fun j hx11 K11 hK11 => ?_)
    · simp
    · refine le_mk ?_ ?_ ?_ ?_ <;> (try simp (disch := omega) only [amL, sF, sG, ↓reduceIte])
    skip
    refine awp_seq_k fun K12 hK12 => ?_
    refine awp_seq_k fun K13 hK13 => ?_
    refine awp_ops ?_
    simp (disch := omega) only [amL, amT, sA, sF, ↓reduceIte, reduceCtorEq]
    refine hK13 _ ?_
    refine awp_cond rfl (fun h => ?_) (fun h => ?_)
    ·first
     | exact Bool.noConfusion h
     |skip
      try simp only [decide_eq_true_eq] at h
      refine awp_skip ?_
      refine hK12 _ ?_
      refine awp_seq_k fun K14 hK14 => ?_
      refine awp_block ?_
      refine awp_seq_k fun K15 hK15 => ?_
      refine awp_ops ?_
      simp (disch := omega) only [encE_getD, amL, amT, sA, sB, sF, ↓reduceIte, reduceCtorEq]
      refine hK15 _ ?_
      refine awp_any2 (by kernel_rfl) (by kernel_rfl) ?_
      simp (disch := omega) only [amL, amT, sA, sB, sE, sF, ↓reduceIte, reduceCtorEq]
      repeat' first | (refine EC_intro (by kernel_rfl) rfl (c35 _ _) (by first | exact .inl rfl | exact .inr (.inl rfl)) ?_ ; simp (disch := omega) only [amL, amT, sA, sB, sC, sE, sF, ↓reduceIte, reduceCtorEq])
      refine hK14 _ ?_
      refine awp_ops ?_
      simp (disch := omega) only [amL, amT, sA, sF, ↓reduceIte]
      refine hK11 (j+1) _ ?_ ?_ (le_mk ?_ ?_ ?_ ?_)
      all_goals (try simp (disch := omega) only [amL, sF, sG, ↓reduceIte])
      all_goals first | omega | rw [take_snoc encE default (by omega)]
    ·first
     | exact Bool.noConfusion h
     |skip
      try simp only [decide_eq_false_iff_not] at h
      refine awp_exit ?_
      refine hK9 _ ?_
      refine awp_seq_k fun K16 hK16 => ?_
      refine awp_ops ?_
      simp (disch := omega) only [amL, amT, sB, sF, ↓reduceIte]
      refine hK16 _ ?_
      refine awp_ret ?_
      try simp (disch := omega) only [amL, amT, sB, sF, ↓reduceIte]
      (have e : k = a.rates.length := by omega); (have e2 : j = a.entries.length := by omega); subst e e2; rw [List.take_length, List.take_length, List.take_of_length_le (by simp), List.take_of_length_le (by simp)]
end AM.Try
end
/- The reference: lists of units. -/
section
namespace AM.Try
open Go AM AM.Duty
open Nat renaming reduceLT → sA, reduceAdd → sB, reduceMul → sC, reduceSub → sD, reduceLeDiff → sE, reduceEqDiff → sF, reduceBEq → sG
open Int renaming reduceAdd → sH, reduceSub → sI, reduceMul → sJ, reduceLT → sK, reduceLE → sL, reduceNeg → sM, reduceToNat → sN, reduceEq → sO
set_option maxHeartbeats 4000000
def nthS : List Entry → Int → List Int
  | [], _ => []
  | e :: r, n => (e.lo + n % (e.hi - e.lo + 1)) :: nthS r (n / (e.hi - e.lo + 1))
theorem nth_step {l : List Entry} {k : Nat} {m : Int} (h : k < l.length) : nthS (l.drop k) m = ((getE l k).lo + m % ((getE l k).hi - (getE l k).lo + 1)) :: nthS (l.drop (k + 1)) (m / ((getE l k).hi - (getE l k).lo + 1)) := by
  rw [drop_getD (d := default) h]; rfl
theorem nth_end {l : List Entry} {k : Nat} {m : Int} (h : l.length ≤ k) : nthS (l.drop k) m = [] := by rw [List.drop_of_length_le h]; rfl
theorem mod_bound {m s : Int} (h1 : 1 ≤ s) : 0 ≤ m % s ∧ m % s < s := ⟨Int.emod_nonneg _ (by omega), Int.emod_lt_of_pos _ (by omega)⟩
theorem div_bound {m s : Int} (h0 : 0 ≤ m) (h1 : 1 ≤ s) : 0 ≤ m / s ∧ m / s ≤ m := ⟨Int.ediv_nonneg h0 (by omega), Int.ediv_le_self _ h0⟩
theorem c73 (a : Acc) (n : Int) (hs : smallE a.entries) (hn0 : 0 ≤ n) (hn1 : n ≤ 1000000000) : PCall Go.Proofs.Try.prog 73 [avA a, i64 n] (isl (nthS a.entries n)) := by
  refine pcall_mk (v := []) (q := []) (N := 41) (rs := [.tmp 4]) Go.Proofs.Try.func73 rfl rfl rfl rfl rfl ?_
  have hlen := hs.1
  refine awp_seq_k fun K1 hK1 => ?_
  refine awp_ops ?_
  simp (disch := omega) only [amL, sA, sB, ↓reduceIte]
  refine hK1 _ ?_
  refine awp_seq_k fun K2 hK2 => ?_
  refine awp_ops ?_
  simp (disch := omega) only [amL, sA]
  refine hK2 _ ?_
  refine awp_seq_k fun K3 hK3 => ?_
  refine awp_seq_k fun K4 hK4 => ?_
  refine awp_ops ?_
  simp (disch := omega) only [amL, sA]
  refine hK4 _ ?_
  refine awp_block ?_
  refine awp_adopt' 36 1 5 (by decide) rfl rfl ?_
  refine awp_loop_k (α := List Int × Int) (fun x => ⟨T [(1, i64 x.2), (2, .ptr 2 0), (5, .own 36 x.1.length), (6, i64 x.1.length)], O [(2, .cells (cA a)), (36, .arr 1 (x.1.map fun n => [iv n]))]⟩) (fun x => a.entries.length - x.1.length) (fun x => x.1.length ≤ a.entries.length ∧ 0 ≤ x.2 ∧ x.2 ≤ 1000000000 ∧ x.1 ++ nthS (a.entries.drop x.1.length) x.2 = nthS a.entries n) ([], n) ?_ ?_ (fun x hx5 K5 hK5 => ?_)
  · exact ⟨by simp, hn0, hn1, rfl⟩
  · refine le_mk ?_ ?_ ?_ ?_ <;> (try simp (disch := omega) only [amL, sF, sG, ↓reduceIte, reduceCtorEq])
  obtain ⟨acc, m⟩ := x; dsimp only at hx5 ⊢; obtain ⟨hk, hm0, hm1, hr⟩ := hx5
  refine awp_seq_k fun K6 hK6 => ?_
  refine awp_seq_k fun K7 hK7 => ?_
  refine awp_ops ?_
  simp (disch := omega) only [amL, amT, sA, sF, ↓reduceIte, reduceCtorEq]
  refine hK7 _ ?_
  refine awp_cond rfl (fun h => ?_) (fun h => ?_)
  ·first
   | exact Bool.noConfusion h
   |skip
    try simp only [decide_eq_true_eq] at h
    refine awp_skip ?_
    refine hK6 _ ?_
    refine awp_seq_k fun K8 hK8 => ?_
    refine awp_block ?_
    refine awp_seq_k fun K9 hK9 => ?_
    refine awp_ops ?_
    have hk2 : acc.length < a.entries.length := by omega
    obtain ⟨e1, e2, e3⟩ := hs.2 acc.length hk2
    have hmo := mod_bound (m := m) (s := (getE a.entries acc.length).hi - (getE a.entries acc.length).lo + 1) (by omega)
    have hdi := div_bound (s := (getE a.entries acc.length).hi - (getE a.entries acc.length).lo + 1) hm0 (by omega)
    simp (disch := omega) only [encE_getD, amL, amT, sA, sB, sE, sF, ↓reduceIte, reduceCtorEq]
    refine hK9 _ ?_
    refine awp_seq_k fun K10 hK10 => ?_
    refine awp_ops ?_
    simp (disch := omega) only [amL, amT, sA, sF, ↓reduceIte, reduceCtorEq]
    refine hK10 _ ?_
    refine awp_any2 (by kernel_rfl) (by kernel_rfl) ?_
    simp (disch := omega) only [amL, amT, sA, sE, sF, ↓reduceIte, reduceCtorEq]
    refine hK8 _ ?_
    refine awp_ops ?_
    simp (disch := omega) only [amL, amT, sA, sF, ↓reduceIte]
    refine hK5 (acc ++ [(getE a.entries acc.length).lo + m % ((getE a.entries acc.length).hi - (getE a.entries acc.length).lo + 1)], m / ((getE a.entries acc.length).hi - (getE a.entries acc.length).lo + 1)) _ ?_ ?_ (le_mk ?_ ?_ ?_ ?_)
    all_goals (try simp (disch := omega) only [amL, sF, sG, ↓reduceIte])
    all_goals first | omega | (rw [nth_step hk2] at hr; exact ⟨by simp; omega, by omega, by omega, by simpa using hr⟩) | (simp; done) | (simp; omega)
  ·first
   | exact Bool.noConfusion h
   |skip
    try simp only [decide_eq_false_iff_not] at h
    refine awp_exit ?_
    refine hK3 _ ?_
    refine awp_seq_k fun K11 hK11 => ?_
    refine awp_ops ?_
    simp (disch := omega) only [amL, sA, sF, ↓reduceIte]
    refine hK11 _ ?_
    refine awp_ret ?_
    try simp (disch := omega) only [amL, sF, ↓reduceIte]
    rw [nth_end (by omega), List.append_nil] at hr; rw [← hr, List.take_of_length_le (by simp)]
end AM.Try
end
