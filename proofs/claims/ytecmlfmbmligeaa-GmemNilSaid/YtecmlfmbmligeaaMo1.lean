/- What the functions reckon, as plain words. No statement of the seat is proved here; no condition. -/
import Derived.Test.YtecmlfmbmligeaaTy
namespace Go.Proofs.Ytecmlfmbmligeaa

def gmem_CheckL1B (l : List Region) (L1 : UInt64 → Int → Option Int) (room1 : UInt64) (x1 : Int) : Option Int :=
  br (decide (x1 < (len l)))
  (ob (ix l x1) fun r1 =>
  br (decide (r1.Len < (1 : UInt64)))
  (some (2 : Int))
  (br (decide (r1.Len > room1))
  (some (2 : Int))
  (br (decide ((r1.Len - (1 : UInt64)) > ((18446744073709551615 : UInt64) - r1.At)))
  (some (2 : Int))
  (br (decide (x1 > (0 : Int)))
  (ob (ix l (wi (x1 - (1 : Int)))) fun r2 =>
  br (decide (r1.At ≤ r2.At))
  (some (2 : Int))
  (br (decide ((r1.At - r2.At) < r2.Len))
  (some (2 : Int))
  (L1 (room1 - r1.Len) (wi (x1 + (1 : Int))))))
  (L1 (room1 - r1.Len) (wi (x1 + (1 : Int))))))))
  (some (0 : Int))

def gmem_CheckL1 (l : List Region) : Nat → UInt64 → Int → Option Int
  | 0, _, _ => none
  | nf + 1, room1, x1 => gmem_CheckL1B l (gmem_CheckL1 l nf) room1 x1

/-- gmem.Check -/
def gmem_Check (l : List Region) : Option Int :=
  br (decide ((len l) > (16 : Int)))
  (some (2 : Int))
  (gmem_CheckL1 l fuel (1048576 : UInt64) (0 : Int))

/-- slices.Clone[[]api.Region,api.Region] -/
def slices_Clone_apiRegionapiRegion (sp0 : List Region) : Option (List Region) :=
  chk (fits ([] : List Region).length sp0.length 16) <|
  some sp0

def gmem_NewL1B (l : List Region) (region1 : (List Region)) (L1 : (List (List UInt8)) → Int → Option ((Option gmem_Mem) × Int)) (rows1 : List (List UInt8)) (x1 : Int) : Option ((Option gmem_Mem) × Int) :=
  br (decide (x1 < (len l)))
  (ob (ix l x1) fun r1 =>
  chk (decide (0 ≤ (r1.Len.toNat : Int) ∧ (r1.Len.toNat : Int) ≤ (r1.Len.toNat : Int) ∧ (1 : Int) * (r1.Len.toNat : Int) ≤ 140737488355328)) <|
  ob (ix rows1 x1) fun row1 =>
  L1 (rows1.set (Int.toNat x1) (List.replicate (Int.toNat (r1.Len.toNat : Int)) (0 : UInt8))) (wi (x1 + (1 : Int))))
  (some ((some (gmem_Mem.mk region1 rows1)), (0 : Int)))

def gmem_NewL1 (l : List Region) (region1 : (List Region)) : Nat → (List (List UInt8)) → Int → Option ((Option gmem_Mem) × Int)
  | 0, _, _ => none
  | nf + 1, rows1, x1 => gmem_NewL1B l region1 (gmem_NewL1 l region1 nf) rows1 x1

/-- gmem.New -/
def gmem_New (l : List Region) : Option ((Option gmem_Mem) × Int) :=
  ob (gmem_Check l) fun check1 =>
  br (check1 != (0 : Int))
  (some ((none : Option gmem_Mem), check1))
  (ob (slices_Clone_apiRegionapiRegion l) fun region1 =>
  chk (decide (0 ≤ (len l) ∧ (len l) ≤ (wi ((len l) + (1 : Int))) ∧ (24 : Int) * (wi ((len l) + (1 : Int))) ≤ 140737488355328)) <|
  gmem_NewL1 l region1 fuel (List.replicate (Int.toNat (len l)) [] : List (List UInt8)) (0 : Int))

/-- (*gmem.Mem).made -/
def gmem_Mem_made (m : gmem_Mem) : Option Bool :=
  some true

/-- (*gmem.Mem).bytes$1 -/
def gmem_Mem_bytes_1 (ip0 : Int) (arg1 : gmem_Mem) (arg2 : UInt64) : Option Bool :=
  ob (ix arg1.l ip0) fun r1 =>
  ob (ix arg1.l ip0) fun r2 =>
  some (decide (((r1.Len - (1 : UInt64)) + r2.At) ≥ arg2))

def sort_SearchFgmem_Mem_bytes_1L1B (fc0 : gmem_Mem) (fc1 : UInt64) (L1 : Int → Int → Option Int) (i1 : Int) (j1 : Int) : Option Int :=
  br (decide (i1 < j1))
  (ob (gmem_Mem_bytes_1 (i64 (shr64 (u64 (wi (i1 + j1))) ((1 : UInt64).toNat))) fc0 fc1) fun bytes1 =>
  br ((!bytes1))
  (L1 (wi ((i64 (shr64 (u64 (wi (i1 + j1))) ((1 : UInt64).toNat))) + (1 : Int))) j1)
  (L1 i1 (i64 (shr64 (u64 (wi (i1 + j1))) ((1 : UInt64).toNat)))))
  (some i1)

def sort_SearchFgmem_Mem_bytes_1L1 (fc0 : gmem_Mem) (fc1 : UInt64) : Nat → Int → Int → Option Int
  | 0, _, _ => none
  | nf + 1, i1, j1 => sort_SearchFgmem_Mem_bytes_1L1B fc0 fc1 (sort_SearchFgmem_Mem_bytes_1L1 fc0 fc1 nf) i1 j1

/-- sort.Search -/
def sort_SearchFgmem_Mem_bytes_1 (np0 : Int) (fc0 : gmem_Mem) (fc1 : UInt64) : Option Int :=
  sort_SearchFgmem_Mem_bytes_1L1 fc0 fc1 fuel (0 : Int) np0

/-- (*gmem.Mem).bytes -/
def gmem_Mem_bytes (m : gmem_Mem) (atp1 : UInt64) (np2 : UInt64) : Option (Option (Int × Int × Int)) :=
  br (decide (np2 < (1 : UInt64)))
  (some (none : Option (Int × Int × Int)))
  (ob (sort_SearchFgmem_Mem_bytes_1 (len m.l) m atp1) fun search1 =>
  br (search1 == (len m.l))
  (some (none : Option (Int × Int × Int)))
  (ob (ix m.l search1) fun r1 =>
  br (decide (atp1 < r1.At))
  (some (none : Option (Int × Int × Int)))
  (ob (ix m.l search1) fun r2 =>
  ob (ix m.l search1) fun r3 =>
  br (decide (np2 > (r3.Len - (atp1 - r2.At))))
  (some (none : Option (Int × Int × Int)))
  (ob (ix m.b search1) fun row1 =>
  chk (decide (0 ≤ ((atp1 - r2.At).toNat : Int) ∧ ((atp1 - r2.At).toNat : Int) ≤ (((atp1 - r2.At) + np2).toNat : Int) ∧ (((atp1 - r2.At) + np2).toNat : Int) ≤ len row1)) <|
  some (some (search1, ((atp1 - r2.At).toNat : Int), (((atp1 - r2.At) + np2).toNat : Int)))))))

/-- dumbwaiterlaw02.two -/
def law02ztwo  : Option (List Region) :=
  some [(Region.mk (100 : UInt64) (8 : UInt64)), (Region.mk (108 : UInt64) (4 : UInt64))]

/-- gmem.isWord -/
def gmem_isWord (np0 : Int) : Option Bool :=
  br (np0 == (1 : Int))
  (some true)
  (br (np0 == (2 : Int))
  (some true)
  (br (np0 == (4 : Int))
  (some true)
  (some (np0 == (8 : Int)))))

def gmem_Mem_StoreL1B (m : gmem_Mem) (bytes : Int) (vp3 : UInt64) (w1 : Int × Int × Int) (L1 : (List UInt8) → Int → Option (Int × (List (List UInt8)))) (row2 : List UInt8) (x1 : Int) : Option (Int × (List (List UInt8))) :=
  chk (decide (0 ≤ w1.2.1 ∧ w1.2.1 ≤ w1.2.2 ∧ w1.2.2 ≤ len row2)) <|
  br (decide (x1 < bytes))
  (chk (decide (0 ≤ wi ((8 : Int) * x1))) <|
  ob (ix (sub row2 w1.2.1 w1.2.2) x1) fun y1 =>
  L1 (row2.set (w1.2.1 + x1).toNat ((shr64 vp3 ((wi ((8 : Int) * x1)).toNat)).toUInt8)) (wi (x1 + (1 : Int))))
  (some ((0 : Int), m.b.set (Int.toNat w1.1) row2))

def gmem_Mem_StoreL1 (m : gmem_Mem) (bytes : Int) (vp3 : UInt64) (w1 : Int × Int × Int) : Nat → (List UInt8) → Int → Option (Int × (List (List UInt8)))
  | 0, _, _ => none
  | nf + 1, row2, x1 => gmem_Mem_StoreL1B m bytes vp3 w1 (gmem_Mem_StoreL1 m bytes vp3 w1 nf) row2 x1

/-- (*gmem.Mem).Store -/
def gmem_Mem_Store (m : gmem_Mem) (atp1 : UInt64) (bytes : Int) (vp3 : UInt64) : Option (Int × (List (List UInt8))) :=
  ob (gmem_Mem_made m) fun made1 =>
  ob (gmem_isWord bytes) fun isword1 =>
  br ((!isword1))
  (some ((2 : Int), m.b))
  (ob (gmem_Mem_bytes m atp1 (u64 bytes)) fun bytes1 =>
  onO bytes1
  (some ((5 : Int), m.b))
  (fun w1 =>
  ob (ix m.b w1.1) fun row1 =>
  chk (decide (0 ≤ w1.2.1 ∧ w1.2.1 ≤ w1.2.2 ∧ w1.2.2 ≤ len row1)) <|
  chk (decide (w1.2.1 < w1.2.2)) <|
  gmem_Mem_StoreL1 m bytes vp3 w1 fuel row1 (0 : Int)))

def gmem_Mem_LoadL1B (bytes : Int) (w1 : Int × Int × Int) (row1 : List UInt8) (L1 : UInt64 → Int → Option (UInt64 × Int)) (v1 : UInt64) (x1 : Int) : Option (UInt64 × Int) :=
  br (decide (x1 < bytes))
  (ob (ix (sub row1 w1.2.1 w1.2.2) x1) fun y1 =>
  chk (decide (0 ≤ wi ((8 : Int) * x1))) <|
  L1 (v1 ||| (shl64 y1.toUInt64 ((wi ((8 : Int) * x1)).toNat))) (wi (x1 + (1 : Int))))
  (some (v1, (0 : Int)))

def gmem_Mem_LoadL1 (bytes : Int) (w1 : Int × Int × Int) (row1 : List UInt8) : Nat → UInt64 → Int → Option (UInt64 × Int)
  | 0, _, _ => none
  | nf + 1, v1, x1 => gmem_Mem_LoadL1B bytes w1 row1 (gmem_Mem_LoadL1 bytes w1 row1 nf) v1 x1

/-- (*gmem.Mem).Load -/
def gmem_Mem_Load (m : gmem_Mem) (atp1 : UInt64) (bytes : Int) : Option (UInt64 × Int) :=
  ob (gmem_Mem_made m) fun made1 =>
  ob (gmem_isWord bytes) fun isword1 =>
  br ((!isword1))
  (some ((0 : UInt64), (2 : Int)))
  (ob (gmem_Mem_bytes m atp1 (u64 bytes)) fun bytes1 =>
  onO bytes1
  (some ((0 : UInt64), (5 : Int)))
  (fun w1 =>
  ob (ix m.b w1.1) fun row1 =>
  chk (decide (0 ≤ w1.2.1 ∧ w1.2.1 ≤ w1.2.2 ∧ w1.2.2 ≤ len row1)) <|
  chk (decide (w1.2.1 < w1.2.2)) <|
  gmem_Mem_LoadL1 bytes w1 row1 fuel (0 : UInt64) (0 : Int)))

/-- (*gmem.Mem).Has -/
def gmem_Mem_Has (m : gmem_Mem) (atp1 : UInt64) (np2 : UInt64) : Option Bool :=
  ob (gmem_Mem_made m) fun made1 =>
  ob (gmem_Mem_bytes m atp1 np2) fun bytes1 =>
  onO bytes1
  (some false)
  (fun w1 =>
  ob (ix m.b w1.1) fun row1 =>
  chk (decide (0 ≤ w1.2.1 ∧ w1.2.1 ≤ w1.2.2 ∧ w1.2.2 ≤ len row1)) <|
  chk (decide (w1.2.1 < w1.2.2)) <|
  some true)

/-- dumbwaiterlaw02.lives -/
def law02zlives  : Option Bool :=
  ob (law02ztwo) fun two1 =>
  ob (gmem_New two1) fun new1 =>
  onO new1.1
  (none)
  (fun mem1 =>
  br (new1.2 != (0 : Int))
  (some false)
  (ob (gmem_Mem_Store mem1 (102 : UInt64) (4 : Int) (1 : UInt64)) fun store1 =>
  br (store1.1 != (0 : Int))
  (some false)
  (ob (gmem_Mem_Load (gmem_Mem.mk mem1.l store1.2) (102 : UInt64) (2 : Int)) fun load1 =>
  ob (gmem_Mem_Load (gmem_Mem.mk mem1.l store1.2) (106 : UInt64) (4 : Int)) fun load2 =>
  br (load1.2 == (0 : Int))
  (br (load1.1 == (1 : UInt64))
  (br (load2.2 == (5 : Int))
  (ob (gmem_Mem_Has (gmem_Mem.mk mem1.l store1.2) (18446744073709551615 : UInt64) (2 : UInt64)) fun has1 =>
  some (!has1))
  (some false))
  (some false))
  (some false))))

/-- (*gmem.Mem).made -/
def gmem_Mem_maden0  : Option Bool :=
  some false

/-- (*gmem.Mem).Load -/
def gmem_Mem_Loadn0 (atp1 : UInt64) (bytes : Int) : Option (UInt64 × Int) :=
  ob (gmem_Mem_maden0) fun made1 =>
  some ((0 : UInt64), (1 : Int))

/-- (*gmem.Mem).Store -/
def gmem_Mem_Storen0 (atp1 : UInt64) (bytes : Int) (vp3 : UInt64) : Option Int :=
  ob (gmem_Mem_maden0) fun made1 =>
  some (1 : Int)

/-- (*gmem.Mem).Read -/
def gmem_Mem_Readn0 (atp1 : UInt64) (np2 : Int) : Option ((List UInt8) × Int) :=
  ob (gmem_Mem_maden0) fun made1 =>
  some (([] : List UInt8), (1 : Int))

/-- (*gmem.Mem).Write -/
def gmem_Mem_Writen0 (atp1 : UInt64) (arg2 : List UInt8) : Option Int :=
  ob (gmem_Mem_maden0) fun made1 =>
  some (1 : Int)

/-- (*gmem.Mem).Has -/
def gmem_Mem_Hasn0 (atp1 : UInt64) (np2 : UInt64) : Option Bool :=
  ob (gmem_Mem_maden0) fun made1 =>
  some false

/-- (*gmem.Mem).Image -/
def gmem_Mem_Imagen0  : Option (List UInt8) :=
  ob (gmem_Mem_maden0) fun made1 =>
  some ([] : List UInt8)

/-- (*gmem.Mem).Regions -/
def gmem_Mem_Regionsn0  : Option (List Region) :=
  ob (gmem_Mem_maden0) fun made1 =>
  some ([] : List Region)

/-- dumbwaiterlaw02.GmemNil -/
def law02zGmemNil (atp0 : UInt64) (np1 : Int) (b : List UInt8) : Option Bool :=
  ob (law02zlives) fun lives1 =>
  chk (!((!lives1))) <|
  br (decide ((len b) > (2000 : Int)))
  (some true)
  (ob (gmem_Mem_Loadn0 atp0 np1) fun load1 =>
  ob (gmem_Mem_Readn0 atp0 np1) fun read1 =>
  chk (load1.2 == (1 : Int)) <|
  chk (read1.2 == (1 : Int)) <|
  ob (gmem_Mem_Storen0 atp0 np1 atp0) fun store1 =>
  chk (store1 == (1 : Int)) <|
  ob (gmem_Mem_Writen0 atp0 b) fun write1 =>
  chk (write1 == (1 : Int)) <|
  ob (gmem_Mem_Hasn0 atp0 atp0) fun has1 =>
  chk ((!has1)) <|
  ob (gmem_Mem_Regionsn0) fun region1 =>
  ob (gmem_Mem_Imagen0) fun image1 =>
  chk ((wi ((len region1) + (len image1))) == (0 : Int)) <|
  some true)
end Go.Proofs.Ytecmlfmbmligeaa
