/- What the functions reckon, as plain words. No statement of the seat is proved here; no condition. -/
import Derived.Test.YtkjmmbmlapmkbaaTy
namespace Go.Proofs.Ytkjmmbmlapmkbaa

/-- dumbwaiterlaw28.memory -/
def law28zmemory  : Option (List Region) :=
  some [(Region.mk (0 : UInt64) (16384 : UInt64))]

def gmem_CheckL1B (l : List Region) (L1 : UInt64 → Int → Option Int) (room1 : UInt64) (x1 : Int) : Option Int :=
  br (decide (x1 < (len l)))
  (ob (ix l x1) fun r1 =>
  br (decide (r1.Len < (1 : UInt64)))
  (some (2 : Int))
  (br (decide (r1.Len > room1))
  (some (2 : Int))
  (br (decide ((r1.Len - (1 : UInt64)) > ((18446744073709551615 : UInt64) - r1.At)))
  (some (2 : Int))
  (br (decide (x1 > (0 : Int)))
  (ob (ix l (wi (x1 - (1 : Int)))) fun r2 =>
  br (decide (r1.At ≤ r2.At))
  (some (2 : Int))
  (br (decide ((r1.At - r2.At) < r2.Len))
  (some (2 : Int))
  (L1 (room1 - r1.Len) (wi (x1 + (1 : Int))))))
  (L1 (room1 - r1.Len) (wi (x1 + (1 : Int))))))))
  (some (0 : Int))

def gmem_CheckL1 (l : List Region) : Nat → UInt64 → Int → Option Int
  | 0, _, _ => none
  | nf + 1, room1, x1 => gmem_CheckL1B l (gmem_CheckL1 l nf) room1 x1

/-- gmem.Check -/
def gmem_Check (l : List Region) : Option Int :=
  br (decide ((len l) > (16 : Int)))
  (some (2 : Int))
  (gmem_CheckL1 l fuel (1048576 : UInt64) (0 : Int))

/-- slices.Clone[[]api.Region,api.Region] -/
def slices_Clone_apiRegionapiRegion (sp0 : List Region) : Option (List Region) :=
  chk (fits ([] : List Region).length sp0.length 16) <|
  some sp0

def gmem_NewL1B (l : List Region) (region1 : (List Region)) (L1 : (List (List UInt8)) → Int → Option ((Option gmem_Mem) × Int)) (rows1 : List (List UInt8)) (x1 : Int) : Option ((Option gmem_Mem) × Int) :=
  br (decide (x1 < (len l)))
  (ob (ix l x1) fun r1 =>
  chk (decide (0 ≤ (r1.Len.toNat : Int) ∧ (r1.Len.toNat : Int) ≤ (r1.Len.toNat : Int) ∧ (1 : Int) * (r1.Len.toNat : Int) ≤ 140737488355328)) <|
  ob (ix rows1 x1) fun row1 =>
  L1 (rows1.set (Int.toNat x1) (List.replicate (Int.toNat (r1.Len.toNat : Int)) (0 : UInt8))) (wi (x1 + (1 : Int))))
  (some ((some (gmem_Mem.mk region1 rows1)), (0 : Int)))

def gmem_NewL1 (l : List Region) (region1 : (List Region)) : Nat → (List (List UInt8)) → Int → Option ((Option gmem_Mem) × Int)
  | 0, _, _ => none
  | nf + 1, rows1, x1 => gmem_NewL1B l region1 (gmem_NewL1 l region1 nf) rows1 x1

/-- gmem.New -/
def gmem_New (l : List Region) : Option ((Option gmem_Mem) × Int) :=
  ob (gmem_Check l) fun check1 =>
  br (check1 != (0 : Int))
  (some ((none : Option gmem_Mem), check1))
  (ob (slices_Clone_apiRegionapiRegion l) fun region1 =>
  chk (decide (0 ≤ (len l) ∧ (len l) ≤ (wi ((len l) + (1 : Int))) ∧ (24 : Int) * (wi ((len l) + (1 : Int))) ≤ 140737488355328)) <|
  gmem_NewL1 l region1 fuel (List.replicate (Int.toNat (len l)) [] : List (List UInt8)) (0 : Int))

/-- ports.New -/
def ports_New (most : Int) : Option (Ports × Int) :=
  br (decide (most < (1 : Int)))
  (some ((Ports.mk (0 : Int) false ([] : List Port)), (2 : Int)))
  (br (decide (most > (32 : Int)))
  (some ((Ports.mk (0 : Int) false ([] : List Port)), (2 : Int)))
  (some ((Ports.mk most false ([] : List Port)), (0 : Int))))

def cons_QueueJ1 (fromp1 : Bool) (q1 : Int) : Option (Int × Int) :=
  br (fromp1)
  (some (ori q1 (1 : Int), (0 : Int)))
  (some (q1, (0 : Int)))

/-- cons.Queue -/
def cons_Queue (port : Int) (fromp1 : Bool) : Option (Int × Int) :=
  ob (ports_New (wi (port + (1 : Int)))) fun new1 =>
  br (decide (port < (0 : Int)))
  (some ((0 : Int), (2 : Int)))
  (br (decide (port ≥ (32 : Int)))
  (some ((0 : Int), (2 : Int)))
  (br (new1.2 != (0 : Int))
  (some ((0 : Int), (2 : Int)))
  (br (decide (port > (0 : Int)))
  (cons_QueueJ1 fromp1 (wi ((shli port ((1 : UInt64).toNat)) + (2 : Int))))
  (cons_QueueJ1 fromp1 (shli port ((1 : UInt64).toNat))))))

/-- cons.Put -/
def cons_Put (sp0 : Stream) (b : List UInt8) : Option (Stream × Int) :=
  chk (decide (0 ≤ (0 : Int) ∧ (0 : Int) ≤ (wi ((len sp0.Wait) + (mini (len b) (maxi (0 : Int) (wi ((4096 : Int) - (len sp0.Wait))))))) ∧ (1 : Int) * (wi ((len sp0.Wait) + (mini (len b) (maxi (0 : Int) (wi ((4096 : Int) - (len sp0.Wait))))))) ≤ 140737488355328)) <|
  chk (fits (List.replicate (0 : Int).toNat (0 : UInt8)).length sp0.Wait.length 1) <|
  chk (decide (0 ≤ (0 : Int) ∧ (0 : Int) ≤ (mini (len b) (maxi (0 : Int) (wi ((4096 : Int) - (len sp0.Wait))))) ∧ (mini (len b) (maxi (0 : Int) (wi ((4096 : Int) - (len sp0.Wait))))) ≤ len b)) <|
  chk (fits ((List.replicate (0 : Int).toNat (0 : UInt8)) ++ sp0.Wait).length (sub b (0 : Int) (mini (len b) (maxi (0 : Int) (wi ((4096 : Int) - (len sp0.Wait)))))).length 1) <|
  some ((Stream.mk (((List.replicate (0 : Int).toNat (0 : UInt8)) ++ sp0.Wait) ++ (sub b (0 : Int) (mini (len b) (maxi (0 : Int) (wi ((4096 : Int) - (len sp0.Wait)))))))), mini (len b) (maxi (0 : Int) (wi ((4096 : Int) - (len sp0.Wait)))))

def law28zroomsL1B (l : List Int) (L1 : UInt64 → (List (List Seg)) → Int → Option (List (List Seg))) (at1 : UInt64) (out1 : List (List Seg)) (i1 : Int) : Option (List (List Seg)) :=
  br (decide (i1 < (len l)))
  (ob (ix l i1) fun y1 =>
  chk (fits out1.length [[(Seg.mk at1 (u32 y1) true)]].length 24) <|
  ob (ix l i1) fun y2 =>
  L1 (at1 + (u64 y2)) (out1 ++ [[(Seg.mk at1 (u32 y1) true)]]) (wi (i1 + (1 : Int))))
  (some out1)

def law28zroomsL1 (l : List Int) : Nat → UInt64 → (List (List Seg)) → Int → Option (List (List Seg))
  | 0, _, _, _ => none
  | nf + 1, at1, out1, i1 => law28zroomsL1B l (law28zroomsL1 l nf) at1 out1 i1

/-- dumbwaiterlaw28.rooms -/
def law28zrooms (l : List Int) : Option (List (List Seg)) :=
  law28zroomsL1 l fuel (0 : UInt64) [] (0 : Int)

/-- seg.Check$1 -/
def seg_Check_1 (arg0 : Int) (arg1 : UInt64) : Option Int :=
  br (arg0 == (0 : Int))
  (br (decide (arg1 ≥ (4294967296 : UInt64)))
  (some (2 : Int))
  (some arg0))
  (some arg0)

def seg_CheckL1B (l : List Seg) (L1 : Int → UInt64 → Int → Option Int) (m1 : Int) (m2 : UInt64) (x1 : Int) : Option Int :=
  br (decide (x1 < (len l)))
  (ob (ix l x1) fun s1 =>
  br (decide (s1.Len < (1 : UInt32)))
  (ob (seg_Check_1 (2 : Int) m2) fun check1 =>
  some check1)
  (br (decide ((s1.Len.toUInt64 - (1 : UInt64)) > ((18446744073709551615 : UInt64) - s1.At)))
  (ob (seg_Check_1 (2 : Int) m2) fun check2 =>
  some check2)
  (br (decide (x1 > (0 : Int)))
  (ob (ix l (wi (x1 - (1 : Int)))) fun s2 =>
  br (s2.Write)
  (br ((!s1.Write))
  (ob (seg_Check_1 (2 : Int) m2) fun check3 =>
  some check3)
  (L1 m1 (m2 + s1.Len.toUInt64) (wi (x1 + (1 : Int)))))
  (L1 m1 (m2 + s1.Len.toUInt64) (wi (x1 + (1 : Int)))))
  (L1 m1 (m2 + s1.Len.toUInt64) (wi (x1 + (1 : Int)))))))
  (ob (seg_Check_1 (0 : Int) m2) fun check4 =>
  some check4)

def seg_CheckL1 (l : List Seg) : Nat → Int → UInt64 → Int → Option Int
  | 0, _, _, _ => none
  | nf + 1, m1, m2, x1 => seg_CheckL1B l (seg_CheckL1 l nf) m1 m2 x1

/-- seg.Check -/
def seg_Check (l : List Seg) : Option Int :=
  br (decide ((len l) > (64 : Int)))
  (some (3 : Int))
  (seg_CheckL1 l fuel (0 : Int) (0 : UInt64) (0 : Int))

def seg_TotalJ2 (x1 : Int) (L1 : UInt64 → UInt64 → Int → Option (UInt64 × UInt64)) (read2 : UInt64) (write2 : UInt64) : Option (UInt64 × UInt64) :=
  L1 read2 write2 (wi (x1 + (1 : Int)))

def seg_TotalJ3 (x1 : Int) (L1 : UInt64 → UInt64 → Int → Option (UInt64 × UInt64)) (read3 : UInt64) (write3 : UInt64) : Option (UInt64 × UInt64) :=
  seg_TotalJ2 x1 L1 read3 write3

def seg_TotalL1B (l : List Seg) (L1 : UInt64 → UInt64 → Int → Option (UInt64 × UInt64)) (read1 : UInt64) (write1 : UInt64) (x1 : Int) : Option (UInt64 × UInt64) :=
  br (decide (x1 < (len l)))
  (ob (ix l x1) fun s1 =>
  br (s1.Write)
  (seg_TotalJ3 x1 L1 read1 (write1 + s1.Len.toUInt64))
  (seg_TotalJ3 x1 L1 (read1 + s1.Len.toUInt64) write1))
  (some (read1, write1))

def seg_TotalL1 (l : List Seg) : Nat → UInt64 → UInt64 → Int → Option (UInt64 × UInt64)
  | 0, _, _, _ => none
  | nf + 1, read1, write1, x1 => seg_TotalL1B l (seg_TotalL1 l nf) read1 write1 x1

/-- seg.Total -/
def seg_Total (l : List Seg) : Option (UInt64 × UInt64) :=
  ob (seg_Check l) fun check1 =>
  br (check1 != (0 : Int))
  (some ((0 : UInt64), (0 : UInt64)))
  (seg_TotalL1 l fuel (0 : UInt64) (0 : UInt64) (0 : Int))

/-- (*gmem.Mem).made -/
def gmem_Mem_made (m : gmem_Mem) : Option Bool :=
  some true

/-- (*gmem.Mem).bytes$1 -/
def gmem_Mem_bytes_1 (ip0 : Int) (arg1 : gmem_Mem) (arg2 : UInt64) : Option Bool :=
  ob (ix arg1.l ip0) fun r1 =>
  ob (ix arg1.l ip0) fun r2 =>
  some (decide (((r1.Len - (1 : UInt64)) + r2.At) ≥ arg2))

def sort_SearchFgmem_Mem_bytes_1L1B (fc0 : gmem_Mem) (fc1 : UInt64) (L1 : Int → Int → Option Int) (i1 : Int) (j1 : Int) : Option Int :=
  br (decide (i1 < j1))
  (ob (gmem_Mem_bytes_1 (i64 (shr64 (u64 (wi (i1 + j1))) ((1 : UInt64).toNat))) fc0 fc1) fun bytes1 =>
  br ((!bytes1))
  (L1 (wi ((i64 (shr64 (u64 (wi (i1 + j1))) ((1 : UInt64).toNat))) + (1 : Int))) j1)
  (L1 i1 (i64 (shr64 (u64 (wi (i1 + j1))) ((1 : UInt64).toNat)))))
  (some i1)

def sort_SearchFgmem_Mem_bytes_1L1 (fc0 : gmem_Mem) (fc1 : UInt64) : Nat → Int → Int → Option Int
  | 0, _, _ => none
  | nf + 1, i1, j1 => sort_SearchFgmem_Mem_bytes_1L1B fc0 fc1 (sort_SearchFgmem_Mem_bytes_1L1 fc0 fc1 nf) i1 j1

/-- sort.Search -/
def sort_SearchFgmem_Mem_bytes_1 (np0 : Int) (fc0 : gmem_Mem) (fc1 : UInt64) : Option Int :=
  sort_SearchFgmem_Mem_bytes_1L1 fc0 fc1 fuel (0 : Int) np0

/-- (*gmem.Mem).bytes -/
def gmem_Mem_bytes (m : gmem_Mem) (atp1 : UInt64) (np2 : UInt64) : Option (Option (Int × Int × Int)) :=
  br (decide (np2 < (1 : UInt64)))
  (some (none : Option (Int × Int × Int)))
  (ob (sort_SearchFgmem_Mem_bytes_1 (len m.l) m atp1) fun search1 =>
  br (search1 == (len m.l))
  (some (none : Option (Int × Int × Int)))
  (ob (ix m.l search1) fun r1 =>
  br (decide (atp1 < r1.At))
  (some (none : Option (Int × Int × Int)))
  (ob (ix m.l search1) fun r2 =>
  ob (ix m.l search1) fun r3 =>
  br (decide (np2 > (r3.Len - (atp1 - r2.At))))
  (some (none : Option (Int × Int × Int)))
  (ob (ix m.b search1) fun row1 =>
  chk (decide (0 ≤ ((atp1 - r2.At).toNat : Int) ∧ ((atp1 - r2.At).toNat : Int) ≤ (((atp1 - r2.At) + np2).toNat : Int) ∧ (((atp1 - r2.At) + np2).toNat : Int) ≤ len row1)) <|
  some (some (search1, ((atp1 - r2.At).toNat : Int), (((atp1 - r2.At) + np2).toNat : Int)))))))

/-- slices.Clone[[]byte,byte] -/
def slices_Clone_bytebyte (sp0 : List UInt8) : Option (List UInt8) :=
  chk (fits ([] : List UInt8).length sp0.length 1) <|
  some sp0

/-- (*gmem.Mem).Read -/
def gmem_Mem_Read (m : gmem_Mem) (atp1 : UInt64) (np2 : Int) : Option ((List UInt8) × Int) :=
  ob (gmem_Mem_made m) fun made1 =>
  br (decide (np2 < (0 : Int)))
  (some (([] : List UInt8), (2 : Int)))
  (br (np2 == (0 : Int))
  (some (([] : List UInt8), (0 : Int)))
  (ob (gmem_Mem_bytes m atp1 (u64 np2)) fun bytes1 =>
  onO bytes1
  (some (([] : List UInt8), (5 : Int)))
  (fun w1 =>
  ob (ix m.b w1.1) fun row1 =>
  chk (decide (0 ≤ w1.2.1 ∧ w1.2.1 ≤ w1.2.2 ∧ w1.2.2 ≤ len row1)) <|
  chk (decide (w1.2.1 < w1.2.2)) <|
  ob (slices_Clone_bytebyte (sub row1 w1.2.1 w1.2.2)) fun cloneb1 =>
  some (cloneb1, (0 : Int)))))

/-- (*gmem.Mem).Has -/
def gmem_Mem_Has (m : gmem_Mem) (atp1 : UInt64) (np2 : UInt64) : Option Bool :=
  ob (gmem_Mem_made m) fun made1 =>
  ob (gmem_Mem_bytes m atp1 np2) fun bytes1 =>
  onO bytes1
  (some false)
  (fun w1 =>
  ob (ix m.b w1.1) fun row1 =>
  chk (decide (0 ≤ w1.2.1 ∧ w1.2.1 ≤ w1.2.2 ∧ w1.2.2 ≤ len row1)) <|
  chk (decide (w1.2.1 < w1.2.2)) <|
  some true)

def seg_InL1B (m : gmem_Mem) (l : List Seg) (L1 : Int → Option Int) (x1 : Int) : Option Int :=
  br (decide (x1 < (len l)))
  (ob (ix l x1) fun s1 =>
  ob (gmem_Mem_Has m s1.At s1.Len.toUInt64) fun has1 =>
  br ((!has1))
  (some (5 : Int))
  (L1 (wi (x1 + (1 : Int)))))
  (some (0 : Int))

def seg_InL1 (m : gmem_Mem) (l : List Seg) : Nat → Int → Option Int
  | 0, _ => none
  | nf + 1, x1 => seg_InL1B m l (seg_InL1 m l nf) x1

/-- seg.In -/
def seg_In (m : gmem_Mem) (l : List Seg) : Option Int :=
  ob (gmem_Mem_Read m (0 : UInt64) (0 : Int)) fun read1 =>
  br (read1.2 != (0 : Int))
  (some read1.2)
  (ob (seg_Check l) fun check1 =>
  br (check1 != (0 : Int))
  (some check1)
  (seg_InL1 m l fuel (0 : Int)))

def seg_PartL1B (l : List Seg) (write : Bool) (L1 : (List Seg) → Int → Option (List Seg)) (out1 : List Seg) (x1 : Int) : Option (List Seg) :=
  br (decide (x1 < (len l)))
  (ob (ix l x1) fun s1 =>
  br (s1.Write == write)
  (chk (fits out1.length [s1].length 16) <|
  L1 (out1 ++ [s1]) (wi (x1 + (1 : Int))))
  (L1 out1 (wi (x1 + (1 : Int)))))
  (some out1)

def seg_PartL1 (l : List Seg) (write : Bool) : Nat → (List Seg) → Int → Option (List Seg)
  | 0, _, _ => none
  | nf + 1, out1, x1 => seg_PartL1B l write (seg_PartL1 l write nf) out1 x1

/-- seg.Part -/
def seg_Part (l : List Seg) (write : Bool) : Option (List Seg) :=
  ob (seg_Check l) fun check1 =>
  br (check1 != (0 : Int))
  (some ([] : List Seg))
  (seg_PartL1 l write fuel [] (0 : Int))

/-- (*gmem.Mem).Write -/
def gmem_Mem_Write (m : gmem_Mem) (atp1 : UInt64) (arg2 : List UInt8) : Option (Int × (List (List UInt8))) :=
  ob (gmem_Mem_made m) fun made1 =>
  br ((len arg2) == (0 : Int))
  (some ((0 : Int), m.b))
  (ob (gmem_Mem_bytes m atp1 (u64 (len arg2))) fun bytes1 =>
  onO bytes1
  (some ((5 : Int), m.b))
  (fun w1 =>
  ob (ix m.b w1.1) fun row1 =>
  chk (decide (0 ≤ w1.2.1 ∧ w1.2.1 ≤ w1.2.2 ∧ w1.2.2 ≤ len row1)) <|
  chk (decide (w1.2.1 < w1.2.2)) <|
  some ((0 : Int), m.b.set (Int.toNat w1.1) (copyAt row1 w1.2.1 w1.2.2 arg2))))

def seg_row_eatL1B  (L1 : (List Seg) → UInt64 → (List Seg) → Option ((List Seg) × (List Seg))) (m1 : List Seg) (n1 : UInt64) (out1 : List Seg) : Option ((List Seg) × (List Seg)) :=
  br (decide (n1 > (0 : UInt64)))
  (br (decide ((len m1) > (0 : Int)))
  (ob (ix m1 (0 : Int)) fun s1 =>
  chk (fits out1.length [(Seg.mk s1.At ((minu64 n1 s1.Len.toUInt64).toUInt32) s1.Write)].length 16) <|
  br (decide ((minu64 n1 s1.Len.toUInt64) < s1.Len.toUInt64))
  (chk (decide (0 ≤ (1 : Int) ∧ (1 : Int) ≤ (len m1) ∧ (len m1) ≤ len m1)) <|
  chk (fits [(Seg.mk (s1.At + (minu64 n1 s1.Len.toUInt64)) (s1.Len - ((minu64 n1 s1.Len.toUInt64).toUInt32)) s1.Write)].length (sub m1 (1 : Int) (len m1)).length 16) <|
  some (out1 ++ [(Seg.mk s1.At ((minu64 n1 s1.Len.toUInt64).toUInt32) s1.Write)], [(Seg.mk (s1.At + (minu64 n1 s1.Len.toUInt64)) (s1.Len - ((minu64 n1 s1.Len.toUInt64).toUInt32)) s1.Write)] ++ (sub m1 (1 : Int) (len m1))))
  (chk (decide (0 ≤ (1 : Int) ∧ (1 : Int) ≤ (len m1) ∧ (len m1) ≤ len m1)) <|
  L1 (sub m1 (1 : Int) (len m1)) (n1 - (minu64 n1 s1.Len.toUInt64)) (out1 ++ [(Seg.mk s1.At ((minu64 n1 s1.Len.toUInt64).toUInt32) s1.Write)])))
  (some (out1, m1)))
  (some (out1, m1))

def seg_row_eatL1  : Nat → (List Seg) → UInt64 → (List Seg) → Option ((List Seg) × (List Seg))
  | 0, _, _, _ => none
  | nf + 1, m1, n1, out1 => seg_row_eatL1B (seg_row_eatL1 nf) m1 n1 out1

/-- (*seg.row).eat -/
def seg_row_eat (rp0 : List Seg) (np1 : UInt64) : Option ((List Seg) × (List Seg)) :=
  seg_row_eatL1 fuel rp0 np1 []

def seg_ScatterL1B (m : gmem_Mem) (b : List UInt8) (eat1 : ((List Seg) × (List Seg))) (L1 : (List (List UInt8)) → Int → (List Seg) → Int → Option (Int × Int × (List (List UInt8)))) (rows1 : List (List UInt8)) (n1 : Int) (l1 : List Seg) (x1 : Int) : Option (Int × Int × (List (List UInt8))) :=
  br (decide (x1 < (len eat1.1)))
  (ob (ix l1 x1) fun s1 =>
  chk (decide (0 ≤ n1 ∧ n1 ≤ (wi (n1 + (i32 s1.Len))) ∧ (wi (n1 + (i32 s1.Len))) ≤ len b)) <|
  ob (gmem_Mem_Write (gmem_Mem.mk m.l rows1) s1.At (sub b n1 (wi (n1 + (i32 s1.Len))))) fun write1 =>
  L1 write1.2 (wi (n1 + (i32 s1.Len))) l1 (wi (x1 + (1 : Int))))
  (some (n1, (0 : Int), rows1))

def seg_ScatterL1 (m : gmem_Mem) (b : List UInt8) (eat1 : ((List Seg) × (List Seg))) : Nat → (List (List UInt8)) → Int → (List Seg) → Int → Option (Int × Int × (List (List UInt8)))
  | 0, _, _, _, _ => none
  | nf + 1, rows1, n1, l1, x1 => seg_ScatterL1B m b eat1 (seg_ScatterL1 m b eat1 nf) rows1 n1 l1 x1

/-- seg.Scatter -/
def seg_Scatter (m : gmem_Mem) (l : List Seg) (b : List UInt8) : Option (Int × Int × (List (List UInt8))) :=
  ob (seg_In m l) fun in1 =>
  br (in1 != (0 : Int))
  (some ((0 : Int), in1, m.b))
  (ob (seg_Part l true) fun part1 =>
  ob (seg_row_eat part1 (u64 (len b))) fun eat1 =>
  seg_ScatterL1 m b eat1 fuel m.b (0 : Int) eat1.1 (0 : Int))

def cons_GiveL2B (m : gmem_Mem) (bufs : List (List Seg)) (out1 : List UInt32) (used1 : Int) (L2 : (List (List UInt8)) → (List UInt8) → (List UInt8) → Int → Option (Stream × (List UInt32) × Int × (List (List UInt8)))) (rows1 : List (List UInt8)) (Wait3 : List UInt8) (rest1 : List UInt8) (x1 : Int) : Option (Stream × (List UInt32) × Int × (List (List UInt8))) :=
  br (decide (x1 < (len (sub out1 (0 : Int) used1))))
  (ob (ix (sub out1 (0 : Int) used1) x1) fun y1 =>
  ob (ix bufs x1) fun y2 =>
  chk (decide (0 ≤ (0 : Int) ∧ (0 : Int) ≤ (y1.toNat : Int) ∧ (y1.toNat : Int) ≤ (y1.toNat : Int) ∧ (y1.toNat : Int) ≤ len rest1)) <|
  ob (seg_Scatter (gmem_Mem.mk m.l rows1) y2 (sub rest1 (0 : Int) (y1.toNat : Int))) fun scatte1 =>
  chk (decide (0 ≤ (y1.toNat : Int) ∧ (y1.toNat : Int) ≤ (len rest1) ∧ (len rest1) ≤ (len rest1) ∧ (len rest1) ≤ len rest1)) <|
  L2 scatte1.2.2 Wait3 (sub rest1 (y1.toNat : Int) (len rest1)) (wi (x1 + (1 : Int))))
  (chk (fits ([] : List UInt8).length rest1.length 1) <|
  some ((Stream.mk rest1), sub out1 (0 : Int) used1, (0 : Int), rows1))

def cons_GiveL2 (m : gmem_Mem) (bufs : List (List Seg)) (out1 : List UInt32) (used1 : Int) : Nat → (List (List UInt8)) → (List UInt8) → (List UInt8) → Int → Option (Stream × (List UInt32) × Int × (List (List UInt8)))
  | 0, _, _, _, _ => none
  | nf + 1, rows1, Wait3, rest1, x1 => cons_GiveL2B m bufs out1 used1 (cons_GiveL2 m bufs out1 used1 nf) rows1 Wait3 rest1 x1

def cons_GiveJ1 (m : gmem_Mem) (bufs : List (List Seg)) (Wait1 : List UInt8) (Wait2 : List UInt8) (out1 : List UInt32) (used1 : Int) : Option (Stream × (List UInt32) × Int × (List (List UInt8))) :=
  chk (decide (0 ≤ (0 : Int) ∧ (0 : Int) ≤ used1 ∧ used1 ≤ used1 ∧ used1 ≤ len out1)) <|
  chk (fits ([] : List UInt8).length Wait1.length 1) <|
  cons_GiveL2 m bufs out1 used1 fuel m.b Wait2 Wait1 (0 : Int)

def cons_GiveJ4 (left1 : UInt64) (x2 : Int) (L3 : (List UInt8) → (List UInt8) → UInt64 → (List UInt32) → Int → Int → Option (Stream × (List UInt32) × Int × (List (List UInt8)))) (total1 : (UInt64 × UInt64)) (Wait6 : List UInt8) (Wait7 : List UInt8) (l1 : List UInt32) (used3 : Int) : Option (Stream × (List UInt32) × Int × (List (List UInt8))) :=
  chk (fits l1.length [(minu64 left1 total1.2).toUInt32].length 4) <|
  L3 Wait6 Wait7 (left1 - (minu64 left1 total1.2)) (l1 ++ [(minu64 left1 total1.2).toUInt32]) used3 (wi (x2 + (1 : Int)))

def cons_GiveL3B (m : gmem_Mem) (bufs : List (List Seg)) (L3 : (List UInt8) → (List UInt8) → UInt64 → (List UInt32) → Int → Int → Option (Stream × (List UInt32) × Int × (List (List UInt8)))) (Wait4 : List UInt8) (Wait5 : List UInt8) (left1 : UInt64) (out2 : List UInt32) (used2 : Int) (x2 : Int) : Option (Stream × (List UInt32) × Int × (List (List UInt8))) :=
  br (decide (x2 < (len bufs)))
  (ob (ix bufs x2) fun y3 =>
  br (left1 == (0 : UInt64))
  (cons_GiveJ1 m bufs Wait4 Wait5 out2 used2)
  (ob (seg_Total y3) fun total1 =>
  br (decide ((minu64 left1 total1.2) > (0 : UInt64)))
  (ob (seg_In m y3) fun in1 =>
  br (in1 != (0 : Int))
  (some ((Stream.mk ([] : List UInt8)), ([] : List UInt32), in1, m.b))
  (cons_GiveJ4 left1 x2 L3 total1 Wait4 Wait5 out2 (wi (x2 + (1 : Int)))))
  (cons_GiveJ4 left1 x2 L3 total1 Wait4 Wait5 out2 used2)))
  (cons_GiveJ1 m bufs Wait4 Wait5 out2 used2)

def cons_GiveL3 (m : gmem_Mem) (bufs : List (List Seg)) : Nat → (List UInt8) → (List UInt8) → UInt64 → (List UInt32) → Int → Int → Option (Stream × (List UInt32) × Int × (List (List UInt8)))
  | 0, _, _, _, _, _, _ => none
  | nf + 1, Wait4, Wait5, left1, out2, used2, x2 => cons_GiveL3B m bufs (cons_GiveL3 m bufs nf) Wait4 Wait5 left1 out2 used2 x2

/-- cons.Give -/
def cons_Give (m : gmem_Mem) (sp1 : Stream) (bufs : List (List Seg)) : Option (Stream × (List UInt32) × Int × (List (List UInt8))) :=
  cons_GiveL3 m bufs fuel sp1.Wait ([] : List UInt8) (u64 (len sp1.Wait)) [] (0 : Int) (0 : Int)

def kit_WordsL1B (ap0 : List UInt32) (b : List UInt32) (L1 : Int → Option Bool) (i1 : Int) : Option Bool :=
  br (decide (i1 < (len ap0)))
  (ob (ix ap0 i1) fun y1 =>
  ob (ix b i1) fun y2 =>
  br (y1 != y2)
  (some false)
  (L1 (wi (i1 + (1 : Int)))))
  (some true)

def kit_WordsL1 (ap0 : List UInt32) (b : List UInt32) : Nat → Int → Option Bool
  | 0, _ => none
  | nf + 1, i1 => kit_WordsL1B ap0 b (kit_WordsL1 ap0 b nf) i1

/-- dumbwaiterkit.Words -/
def kit_Words (ap0 : List UInt32) (b : List UInt32) : Option Bool :=
  br ((len ap0) != (len b))
  (some false)
  (kit_WordsL1 ap0 b fuel (0 : Int))

/-- dumbwaiterlaw28.lives -/
def law28zlives  : Option Bool :=
  ob (law28zmemory) fun memory1 =>
  ob (gmem_New memory1) fun new1 =>
  onO new1.1
  (none)
  (fun mem1 =>
  ob (cons_Queue (0 : Int) false) fun queue1 =>
  ob (cons_Queue (0 : Int) true) fun queue2 =>
  ob (cons_Queue (3 : Int) false) fun queue3 =>
  br (new1.2 != (0 : Int))
  (some false)
  (br (queue1.2 != (0 : Int))
  (some false)
  (br (queue2.2 != (0 : Int))
  (some false)
  (br (queue3.2 != (0 : Int))
  (some false)
  (ob (cons_Put (Stream.mk ([] : List UInt8)) [(104 : UInt8), (101 : UInt8), (108 : UInt8), (108 : UInt8), (111 : UInt8)]) fun put1 =>
  ob (law28zrooms [(2 : Int), (2 : Int), (2 : Int)]) fun rooms1 =>
  ob (cons_Give mem1 put1.1 rooms1) fun give1 =>
  br (queue1.1 == (0 : Int))
  (br (queue2.1 == (1 : Int))
  (br (queue3.1 == (8 : Int))
  (br (put1.2 == (5 : Int))
  (br (give1.2.2.1 == (0 : Int))
  (br ((len give1.1.Wait) == (0 : Int))
  (ob (kit_Words give1.2.1 [(2 : UInt32), (2 : UInt32), (1 : UInt32)]) fun words1 =>
  some words1)
  (some false))
  (some false))
  (some false))
  (some false))
  (some false))
  (some false))))))

/-- dumbwaiterkit.Pick -/
def kit_Pick (np0 : Int) (m : Int) : Option Int :=
  br (decide (m < (1 : Int)))
  (some (0 : Int))
  (chk (!(m == 0)) <|
  br (decide ((remi np0 m) < (0 : Int)))
  (some (wi ((remi np0 m) + m)))
  (some (remi np0 m)))

/-- dumbwaiterkit.Own -/
def kit_Own (b : List UInt8) : Option (List UInt8) :=
  chk (fits ([] : List UInt8).length b.length 1) <|
  some b

def slices_Grow_bytebyten0J1 (np1 : Int)  : Option (List UInt8) :=
  br (decide ((wi (np1 - (wi ((0 : Int) - (0 : Int))))) > (0 : Int)))
  (chk (decide (0 ≤ (wi (np1 - (wi ((0 : Int) - (0 : Int))))) ∧ (1 : Int) * (wi (np1 - (wi ((0 : Int) - (0 : Int))))) ≤ 140737488355328)) <|
  chk (decide (0 ≤ (0 : Int) ∧ (0 : Int) ≤ len (List.replicate (wi (np1 - (wi ((0 : Int) - (0 : Int))))).toNat (0 : UInt8)))) <|
  some ((List.replicate (wi (np1 - (wi ((0 : Int) - (0 : Int))))).toNat (0 : UInt8)).take (0 : Int).toNat))
  (some ([] : List UInt8))

/-- slices.Grow[[]byte,byte] -/
def slices_Grow_bytebyten0 (np1 : Int) : Option (List UInt8) :=
  chk (!(decide (np1 < (0 : Int)))) <|
  slices_Grow_bytebyten0J1 np1

def slices_Concat_bytebyteJ2 (x1 : Int) (L1 : Int → Int → Option (List UInt8)) (size2 : Int) : Option (List UInt8) :=
  L1 size2 (wi (x1 + (1 : Int)))

def slices_Concat_bytebyteJ3 (size1 : Int) (x1 : Int) (L1 : Int → Int → Option (List UInt8)) (y1 : List UInt8)  : Option (List UInt8) :=
  slices_Concat_bytebyteJ2 x1 L1 (wi (size1 + (len y1)))

def slices_Concat_bytebyteL4B (slices : List (List UInt8)) (L4 : (List UInt8) → Int → Option (List UInt8)) (newslice1 : List UInt8) (x2 : Int) : Option (List UInt8) :=
  br (decide (x2 < (len slices)))
  (ob (ix slices x2) fun y2 =>
  chk (fits newslice1.length y2.length 1) <|
  L4 (newslice1 ++ y2) (wi (x2 + (1 : Int))))
  (some newslice1)

def slices_Concat_bytebyteL4 (slices : List (List UInt8)) : Nat → (List UInt8) → Int → Option (List UInt8)
  | 0, _, _ => none
  | nf + 1, newslice1, x2 => slices_Concat_bytebyteL4B slices (slices_Concat_bytebyteL4 slices nf) newslice1 x2

def slices_Concat_bytebyteL1B (slices : List (List UInt8)) (L1 : Int → Int → Option (List UInt8)) (size1 : Int) (x1 : Int) : Option (List UInt8) :=
  br (decide (x1 < (len slices)))
  (ob (ix slices x1) fun y1 =>
  chk (!(decide ((wi (size1 + (len y1))) < (0 : Int)))) <|
  slices_Concat_bytebyteJ3 size1 x1 L1 y1)
  (ob (slices_Grow_bytebyten0 size1) fun growby1 =>
  slices_Concat_bytebyteL4 slices fuel growby1 (0 : Int))

def slices_Concat_bytebyteL1 (slices : List (List UInt8)) : Nat → Int → Int → Option (List UInt8)
  | 0, _, _ => none
  | nf + 1, size1, x1 => slices_Concat_bytebyteL1B slices (slices_Concat_bytebyteL1 slices nf) size1 x1

/-- slices.Concat[[]byte,byte] -/
def slices_Concat_bytebyte (slices : List (List UInt8)) : Option (List UInt8) :=
  slices_Concat_bytebyteL1 slices fuel (0 : Int) (0 : Int)

/-- slices.Clone[[]api.Seg,api.Seg] -/
def slices_Clone_apiSegapiSeg (sp0 : List Seg) : Option (List Seg) :=
  chk (fits ([] : List Seg).length sp0.length 16) <|
  some sp0

/-- seg.Cut -/
def seg_Cut (l : List Seg) (fromp1 : UInt64) (np2 : UInt64) : Option (List Seg) :=
  ob (seg_Check l) fun check1 =>
  br (check1 != (0 : Int))
  (some ([] : List Seg))
  (ob (slices_Clone_apiSegapiSeg l) fun seg1 =>
  ob (seg_row_eat seg1 fromp1) fun eat1 =>
  ob (seg_row_eat eat1.2 np2) fun eat2 =>
  some eat2.1)

def seg_GatherL1B (m : gmem_Mem) (part1 : (List Seg)) (L1 : (List (List UInt8)) → (List Seg) → Int → Option ((List UInt8) × Int)) (parts1 : List (List UInt8)) (l1 : List Seg) (x1 : Int) : Option ((List UInt8) × Int) :=
  br (decide (x1 < (len part1)))
  (ob (ix l1 x1) fun s1 =>
  ob (gmem_Mem_Read m s1.At (i32 s1.Len)) fun read1 =>
  br (read1.2 != (0 : Int))
  (some (([] : List UInt8), read1.2))
  (chk (fits parts1.length [read1.1].length 24) <|
  L1 (parts1 ++ [read1.1]) l1 (wi (x1 + (1 : Int)))))
  (ob (slices_Concat_bytebyte parts1) fun concat1 =>
  some (concat1, (0 : Int)))

def seg_GatherL1 (m : gmem_Mem) (part1 : (List Seg)) : Nat → (List (List UInt8)) → (List Seg) → Int → Option ((List UInt8) × Int)
  | 0, _, _, _ => none
  | nf + 1, parts1, l1, x1 => seg_GatherL1B m part1 (seg_GatherL1 m part1 nf) parts1 l1 x1

/-- seg.Gather -/
def seg_Gather (m : gmem_Mem) (l : List Seg) : Option ((List UInt8) × Int) :=
  ob (seg_In m l) fun in1 =>
  br (in1 != (0 : Int))
  (some (([] : List UInt8), in1))
  (ob (seg_Part l false) fun part1 =>
  seg_GatherL1 m part1 fuel [] part1 (0 : Int))

def cons_JoinL2B (m : gmem_Mem) (x1 : Int) (L1 : (List UInt8) → Int → Option ((List UInt8) × Int)) (part1 : (List Seg)) (y2 : UInt32) (L2 : (List UInt8) → (List Seg) → Int → Option ((List UInt8) × Int)) (l1 : List UInt8) (l2 : List Seg) (x2 : Int) : Option ((List UInt8) × Int) :=
  br (decide (x2 < (len part1)))
  (ob (ix l2 x2) fun s1 =>
  L2 l1 (l2.set x2.toNat (Seg.mk s1.At s1.Len false)) (wi (x2 + (1 : Int))))
  (ob (seg_Cut l2 (0 : UInt64) y2.toUInt64) fun cut1 =>
  ob (seg_Gather m cut1) fun gather1 =>
  br (gather1.2 != (0 : Int))
  (some (([] : List UInt8), gather1.2))
  (chk (fits l1.length gather1.1.length 1) <|
  L1 (l1 ++ gather1.1) (wi (x1 + (1 : Int)))))

def cons_JoinL2 (m : gmem_Mem) (x1 : Int) (L1 : (List UInt8) → Int → Option ((List UInt8) × Int)) (part1 : (List Seg)) (y2 : UInt32) : Nat → (List UInt8) → (List Seg) → Int → Option ((List UInt8) × Int)
  | 0, _, _, _ => none
  | nf + 1, l1, l2, x2 => cons_JoinL2B m x1 L1 part1 y2 (cons_JoinL2 m x1 L1 part1 y2 nf) l1 l2 x2

def cons_JoinL1B (m : gmem_Mem) (bufs : List (List Seg)) (written : List UInt32) (L1 : (List UInt8) → Int → Option ((List UInt8) × Int)) (out1 : List UInt8) (x1 : Int) : Option ((List UInt8) × Int) :=
  br (decide (x1 < (len bufs)))
  (ob (ix bufs x1) fun y1 =>
  ob (seg_In m y1) fun in1 =>
  br (in1 != (0 : Int))
  (some (([] : List UInt8), in1))
  (ob (seg_Part y1 true) fun part1 =>
  ob (ix written x1) fun y2 =>
  ob (seg_Total part1) fun total1 =>
  br (decide (y2.toUInt64 > total1.2))
  (some (([] : List UInt8), (2 : Int)))
  (cons_JoinL2 m x1 L1 part1 y2 fuel out1 part1 (0 : Int))))
  (some (out1, (0 : Int)))

def cons_JoinL1 (m : gmem_Mem) (bufs : List (List Seg)) (written : List UInt32) : Nat → (List UInt8) → Int → Option ((List UInt8) × Int)
  | 0, _, _ => none
  | nf + 1, out1, x1 => cons_JoinL1B m bufs written (cons_JoinL1 m bufs written nf) out1 x1

/-- cons.Join -/
def cons_Join (m : gmem_Mem) (bufs : List (List Seg)) (written : List UInt32) : Option ((List UInt8) × Int) :=
  br ((len bufs) != (len written))
  (some (([] : List UInt8), (2 : Int)))
  (cons_JoinL1 m bufs written fuel [] (0 : Int))

def law28zConsStreamsL2B (sizes : List Int) (mem1 : gmem_Mem) (rows1 : List (List UInt8)) (put1 : List UInt8) (got1 : List UInt8) (i1 : Int) (L1 : (List (List UInt8)) → (List UInt8) → (List UInt8) → (List UInt8) → Int → Option Bool) (put2 : (Stream × Int)) (y5 : List UInt8) (L2 : (List UInt8) → (List UInt8) → (List Int) → Int → Option Bool) (Wait2 : List UInt8) (Wait3 : List UInt8) (l1 : List Int) (k1 : Int) : Option Bool :=
  br (decide (k1 < (len sizes)))
  (ob (ix sizes k1) fun y6 =>
  ob (kit_Pick (wi (y6 + i1)) (500 : Int)) fun pick1 =>
  chk (fits l1.length [wi ((1 : Int) + pick1)].length 8) <|
  L2 Wait2 Wait3 (l1 ++ [wi ((1 : Int) + pick1)]) (wi (k1 + (1 : Int))))
  (ob (law28zrooms l1) fun rooms1 =>
  ob (cons_Give (gmem_Mem.mk mem1.l rows1) (Stream.mk Wait3) rooms1) fun give1 =>
  chk (!(give1.2.2.1 != (0 : Int))) <|
  chk (!(decide ((len give1.2.1) > (len rooms1)))) <|
  chk (decide (0 ≤ (0 : Int) ∧ (0 : Int) ≤ (len give1.2.1) ∧ (len give1.2.1) ≤ len rooms1)) <|
  ob (cons_Join (gmem_Mem.mk mem1.l give1.2.2.2) (sub rooms1 (0 : Int) (len give1.2.1)) give1.2.1) fun join1 =>
  chk (!(join1.2 != (0 : Int))) <|
  chk (decide (got1.length + join1.1.length ≤ 9223372036854775807)) <|
  L1 give1.2.2.2 give1.1.Wait (put1 ++ (sub y5 (0 : Int) put2.2)) (got1 ++ join1.1) (wi (i1 + (1 : Int))))

def law28zConsStreamsL2 (sizes : List Int) (mem1 : gmem_Mem) (rows1 : List (List UInt8)) (put1 : List UInt8) (got1 : List UInt8) (i1 : Int) (L1 : (List (List UInt8)) → (List UInt8) → (List UInt8) → (List UInt8) → Int → Option Bool) (put2 : (Stream × Int)) (y5 : List UInt8) : Nat → (List UInt8) → (List UInt8) → (List Int) → Int → Option Bool
  | 0, _, _, _, _ => none
  | nf + 1, Wait2, Wait3, l1, k1 => law28zConsStreamsL2B sizes mem1 rows1 put1 got1 i1 L1 put2 y5 (law28zConsStreamsL2 sizes mem1 rows1 put1 got1 i1 L1 put2 y5 nf) Wait2 Wait3 l1 k1

def law28zConsStreamsL3B (sizes : List Int) (mem1 : gmem_Mem) (rows1 : List (List UInt8)) (put1 : List UInt8) (got1 : List UInt8) (i1 : Int) (L1 : (List (List UInt8)) → (List UInt8) → (List UInt8) → (List UInt8) → Int → Option Bool) (put2 : (Stream × Int)) (y7 : List UInt8) (L3 : (List UInt8) → (List UInt8) → (List Int) → Int → Option Bool) (Wait4 : List UInt8) (Wait5 : List UInt8) (l2 : List Int) (k2 : Int) : Option Bool :=
  br (decide (k2 < (len sizes)))
  (ob (ix sizes k2) fun y8 =>
  ob (kit_Pick (wi (y8 + i1)) (500 : Int)) fun pick2 =>
  chk (fits l2.length [wi ((1 : Int) + pick2)].length 8) <|
  L3 Wait4 Wait5 (l2 ++ [wi ((1 : Int) + pick2)]) (wi (k2 + (1 : Int))))
  (ob (law28zrooms l2) fun rooms2 =>
  ob (cons_Give (gmem_Mem.mk mem1.l rows1) (Stream.mk Wait5) rooms2) fun give2 =>
  chk (!(give2.2.2.1 != (0 : Int))) <|
  chk (!(decide ((len give2.2.1) > (len rooms2)))) <|
  chk (decide (0 ≤ (0 : Int) ∧ (0 : Int) ≤ (len give2.2.1) ∧ (len give2.2.1) ≤ len rooms2)) <|
  ob (cons_Join (gmem_Mem.mk mem1.l give2.2.2.2) (sub rooms2 (0 : Int) (len give2.2.1)) give2.2.1) fun join2 =>
  chk (!(join2.2 != (0 : Int))) <|
  chk (decide (got1.length + join2.1.length ≤ 9223372036854775807)) <|
  L1 give2.2.2.2 give2.1.Wait (put1 ++ (sub y7 (0 : Int) put2.2)) (got1 ++ join2.1) (wi (i1 + (1 : Int))))

def law28zConsStreamsL3 (sizes : List Int) (mem1 : gmem_Mem) (rows1 : List (List UInt8)) (put1 : List UInt8) (got1 : List UInt8) (i1 : Int) (L1 : (List (List UInt8)) → (List UInt8) → (List UInt8) → (List UInt8) → Int → Option Bool) (put2 : (Stream × Int)) (y7 : List UInt8) : Nat → (List UInt8) → (List UInt8) → (List Int) → Int → Option Bool
  | 0, _, _, _, _ => none
  | nf + 1, Wait4, Wait5, l2, k2 => law28zConsStreamsL3B sizes mem1 rows1 put1 got1 i1 L1 put2 y7 (law28zConsStreamsL3 sizes mem1 rows1 put1 got1 i1 L1 put2 y7 nf) Wait4 Wait5 l2 k2

def law28zConsStreamsL1B (parts : List (List UInt8)) (sizes : List Int) (mem1 : gmem_Mem) (L1 : (List (List UInt8)) → (List UInt8) → (List UInt8) → (List UInt8) → Int → Option Bool) (rows1 : List (List UInt8)) (Wait1 : List UInt8) (put1 : List UInt8) (got1 : List UInt8) (i1 : Int) : Option Bool :=
  br (decide (i1 < (len parts)))
  (ob (ix parts i1) fun y1 =>
  br (decide ((len y1) > (6000 : Int)))
  (some true)
  (ob (ix parts i1) fun y2 =>
  ob (kit_Own y2) fun own1 =>
  ob (cons_Put (Stream.mk Wait1) own1) fun put2 =>
  chk (!(decide (put2.2 < (0 : Int)))) <|
  ob (ix parts i1) fun y3 =>
  chk (!(decide (put2.2 > (len y3)))) <|
  chk (!((len put2.1.Wait) != (wi ((len Wait1) + put2.2)))) <|
  chk (!(decide ((len put2.1.Wait) > (4096 : Int)))) <|
  ob (ix parts i1) fun y4 =>
  br (decide (put2.2 < (len y4)))
  (chk (!((len put2.1.Wait) != (4096 : Int))) <|
  ob (ix parts i1) fun y5 =>
  chk (decide (0 ≤ (0 : Int) ∧ (0 : Int) ≤ put2.2 ∧ put2.2 ≤ len y5)) <|
  chk (decide (put1.length + (sub y5 (0 : Int) put2.2).length ≤ 9223372036854775807)) <|
  law28zConsStreamsL2 sizes mem1 rows1 put1 got1 i1 L1 put2 y5 fuel Wait1 put2.1.Wait [] (0 : Int))
  (ob (ix parts i1) fun y7 =>
  chk (decide (0 ≤ (0 : Int) ∧ (0 : Int) ≤ put2.2 ∧ put2.2 ≤ len y7)) <|
  chk (decide (put1.length + (sub y7 (0 : Int) put2.2).length ≤ 9223372036854775807)) <|
  law28zConsStreamsL3 sizes mem1 rows1 put1 got1 i1 L1 put2 y7 fuel Wait1 put2.1.Wait [] (0 : Int))))
  (chk (decide (got1.length + Wait1.length ≤ 9223372036854775807)) <|
  chk ((got1 ++ Wait1) == put1) <|
  some true)

def law28zConsStreamsL1 (parts : List (List UInt8)) (sizes : List Int) (mem1 : gmem_Mem) : Nat → (List (List UInt8)) → (List UInt8) → (List UInt8) → (List UInt8) → Int → Option Bool
  | 0, _, _, _, _, _ => none
  | nf + 1, rows1, Wait1, put1, got1, i1 => law28zConsStreamsL1B parts sizes mem1 (law28zConsStreamsL1 parts sizes mem1 nf) rows1 Wait1 put1 got1 i1

/-- dumbwaiterlaw28.ConsStreams -/
def law28zConsStreams (parts : List (List UInt8)) (sizes : List Int) : Option Bool :=
  ob (law28zlives) fun lives1 =>
  chk (!((!lives1))) <|
  br (decide ((len parts) > (20 : Int)))
  (some true)
  (br (decide ((len sizes) > (20 : Int)))
  (some true)
  (ob (law28zmemory) fun memory1 =>
  ob (gmem_New memory1) fun new1 =>
  onO new1.1
  (none)
  (fun mem1 =>
  chk (!(new1.2 != (0 : Int))) <|
  law28zConsStreamsL1 parts sizes mem1 fuel mem1.b ([] : List UInt8) ([] : List UInt8) ([] : List UInt8) (0 : Int))))

end Go.Proofs.Ytkjmmbmlapmkbaa
