/- What the functions reckon, as plain words. No statement of the seat is proved here; no condition. -/
import Derived.Test.YtamdpkddehhocaaTy
namespace Go.Proofs.Ytamdpkddehhocaa

def desc_raw_putL1B (atp1 : Int) (np2 : Int) (vp3 : UInt64) (L1 : (List UInt8) → Int → Option (List UInt8)) (m1 : List UInt8) (x1 : Int) : Option (List UInt8) :=
  br (decide (x1 < np2))
  (chk (decide (0 ≤ wi ((8 : Int) * x1))) <|
  chk (decide (0 ≤ (wi (atp1 + x1)) ∧ (wi (atp1 + x1)) < (16 : Int))) <|
  chk (decide (0 ≤ (wi (atp1 + x1)) ∧ (wi (atp1 + x1)) < (m1.length : Int))) <|
  L1 (m1.set (wi (atp1 + x1)).toNat ((shr64 vp3 ((wi ((8 : Int) * x1)).toNat)).toUInt8)) (wi (x1 + (1 : Int))))
  (some m1)

def desc_raw_putL1 (atp1 : Int) (np2 : Int) (vp3 : UInt64) : Nat → (List UInt8) → Int → Option (List UInt8)
  | 0, _, _ => none
  | nf + 1, m1, x1 => desc_raw_putL1B atp1 np2 vp3 (desc_raw_putL1 atp1 np2 vp3 nf) m1 x1

/-- (*desc.raw).put -/
def desc_raw_put (rp0 : List UInt8) (atp1 : Int) (np2 : Int) (vp3 : UInt64) : Option (List UInt8) :=
  desc_raw_putL1 atp1 np2 vp3 fuel rp0 (0 : Int)

/-- desc.Bytes -/
def desc_Bytes (dp0 : Desc) : Option (List UInt8) :=
  ob (desc_raw_put (List.replicate 16 0) (0 : Int) (8 : Int) dp0.Addr) fun put1 =>
  ob (desc_raw_put put1 (8 : Int) (4 : Int) dp0.Len.toUInt64) fun put2 =>
  ob (desc_raw_put put2 (12 : Int) (2 : Int) dp0.Flags.toUInt64) fun put3 =>
  ob (desc_raw_put put3 (14 : Int) (2 : Int) dp0.Next.toUInt64) fun put4 =>
  chk (put4.length == 16) <|
  some put4

def desc_MarkJ1 (wrap : Bool) (used : Bool) (flags1 : UInt16) : Option UInt16 :=
  br (wrap == used)
  (some (flags1 ||| (32768 : UInt16)))
  (some flags1)

/-- desc.Mark -/
def desc_Mark (flags : UInt16) (wrap : Bool) (used : Bool) : Option UInt16 :=
  br (wrap)
  (desc_MarkJ1 wrap used ((flags &&& ~~~(32896 : UInt16)) ||| (128 : UInt16)))
  (desc_MarkJ1 wrap used (flags &&& ~~~(32896 : UInt16)))

/-- dumbwaiterlaw03.lives -/
def law_lives  : Option Bool :=
  ob (desc_Bytes (Desc.mk (4096 : UInt64) (32 : UInt32) (1 : UInt16) (5 : UInt16))) fun bytes1 =>
  br (bytes1 == ([0, 16, 0, 0, 0, 0, 0, 0, 32, 0, 0, 0, 1, 0, 5, 0] : List UInt8))
  (ob (desc_Mark (2 : UInt16) true false) fun mark1 =>
  br (mark1 == (130 : UInt16))
  (ob (desc_Mark (2 : UInt16) true true) fun mark2 =>
  some (mark2 == (32898 : UInt16)))
  (some false))
  (some false)

/-- desc.Avail -/
def desc_Avail (flags : UInt16) (wrap : Bool) : Option Bool :=
  br (((flags &&& (128 : UInt16)) != (0 : UInt16)) == wrap)
  (some (((flags &&& (32768 : UInt16)) != (0 : UInt16)) != wrap))
  (some false)

/-- desc.Used -/
def desc_Used (flags : UInt16) (wrap : Bool) : Option Bool :=
  br (((flags &&& (128 : UInt16)) != (0 : UInt16)) == wrap)
  (some (((flags &&& (32768 : UInt16)) != (0 : UInt16)) == wrap))
  (some false)

/-- dumbwaiterlaw03.DescRounds -/
def law_DescRounds (flags : UInt16) (wrap : Bool) : Option Bool :=
  ob (law_lives) fun lives1 =>
  chk (!((!lives1))) <|
  ob (desc_Mark flags wrap false) fun mark1 =>
  ob (desc_Mark flags wrap true) fun mark2 =>
  ob (desc_Avail flags wrap) fun avail1 =>
  br (avail1)
  (ob (desc_Used flags wrap) fun used1 =>
  chk (!(used1)) <|
  ob (desc_Used flags (!wrap)) fun used2 =>
  chk (!(used2)) <|
  ob (desc_Avail flags (!wrap)) fun avail2 =>
  chk (!(avail2)) <|
  ob (desc_Used flags wrap) fun used3 =>
  br (used3)
  (ob (desc_Used flags (!wrap)) fun used4 =>
  chk (!(used4)) <|
  ob (desc_Avail mark1 wrap) fun avail3 =>
  chk (avail3) <|
  ob (desc_Used mark1 wrap) fun used5 =>
  chk ((!used5)) <|
  ob (desc_Avail mark1 (!wrap)) fun avail4 =>
  chk ((!avail4)) <|
  ob (desc_Used mark1 (!wrap)) fun used6 =>
  chk ((!used6)) <|
  ob (desc_Used mark2 wrap) fun used7 =>
  chk (used7) <|
  ob (desc_Avail mark2 wrap) fun avail5 =>
  chk ((!avail5)) <|
  ob (desc_Avail mark2 (!wrap)) fun avail6 =>
  chk ((!avail6)) <|
  ob (desc_Used mark2 (!wrap)) fun used8 =>
  chk ((!used8)) <|
  chk ((mark1 &&& (32639 : UInt16)) == (flags &&& (32639 : UInt16))) <|
  chk ((mark2 &&& (32639 : UInt16)) == (flags &&& (32639 : UInt16))) <|
  ob (desc_Mark mark1 wrap true) fun mark3 =>
  chk (mark3 == mark2) <|
  ob (desc_Mark mark2 wrap false) fun mark4 =>
  chk (mark4 == mark1) <|
  some true)
  (ob (desc_Avail mark1 wrap) fun avail7 =>
  chk (avail7) <|
  ob (desc_Used mark1 wrap) fun used9 =>
  chk ((!used9)) <|
  ob (desc_Avail mark1 (!wrap)) fun avail8 =>
  chk ((!avail8)) <|
  ob (desc_Used mark1 (!wrap)) fun used10 =>
  chk ((!used10)) <|
  ob (desc_Used mark2 wrap) fun used11 =>
  chk (used11) <|
  ob (desc_Avail mark2 wrap) fun avail9 =>
  chk ((!avail9)) <|
  ob (desc_Avail mark2 (!wrap)) fun avail10 =>
  chk ((!avail10)) <|
  ob (desc_Used mark2 (!wrap)) fun used12 =>
  chk ((!used12)) <|
  chk ((mark1 &&& (32639 : UInt16)) == (flags &&& (32639 : UInt16))) <|
  chk ((mark2 &&& (32639 : UInt16)) == (flags &&& (32639 : UInt16))) <|
  ob (desc_Mark mark1 wrap true) fun mark5 =>
  chk (mark5 == mark2) <|
  ob (desc_Mark mark2 wrap false) fun mark6 =>
  chk (mark6 == mark1) <|
  some true))
  (ob (desc_Used flags wrap) fun used13 =>
  br (used13)
  (ob (desc_Used flags (!wrap)) fun used14 =>
  chk (!(used14)) <|
  ob (desc_Avail mark1 wrap) fun avail11 =>
  chk (avail11) <|
  ob (desc_Used mark1 wrap) fun used15 =>
  chk ((!used15)) <|
  ob (desc_Avail mark1 (!wrap)) fun avail12 =>
  chk ((!avail12)) <|
  ob (desc_Used mark1 (!wrap)) fun used16 =>
  chk ((!used16)) <|
  ob (desc_Used mark2 wrap) fun used17 =>
  chk (used17) <|
  ob (desc_Avail mark2 wrap) fun avail13 =>
  chk ((!avail13)) <|
  ob (desc_Avail mark2 (!wrap)) fun avail14 =>
  chk ((!avail14)) <|
  ob (desc_Used mark2 (!wrap)) fun used18 =>
  chk ((!used18)) <|
  chk ((mark1 &&& (32639 : UInt16)) == (flags &&& (32639 : UInt16))) <|
  chk ((mark2 &&& (32639 : UInt16)) == (flags &&& (32639 : UInt16))) <|
  ob (desc_Mark mark1 wrap true) fun mark7 =>
  chk (mark7 == mark2) <|
  ob (desc_Mark mark2 wrap false) fun mark8 =>
  chk (mark8 == mark1) <|
  some true)
  (ob (desc_Avail mark1 wrap) fun avail15 =>
  chk (avail15) <|
  ob (desc_Used mark1 wrap) fun used19 =>
  chk ((!used19)) <|
  ob (desc_Avail mark1 (!wrap)) fun avail16 =>
  chk ((!avail16)) <|
  ob (desc_Used mark1 (!wrap)) fun used20 =>
  chk ((!used20)) <|
  ob (desc_Used mark2 wrap) fun used21 =>
  chk (used21) <|
  ob (desc_Avail mark2 wrap) fun avail17 =>
  chk ((!avail17)) <|
  ob (desc_Avail mark2 (!wrap)) fun avail18 =>
  chk ((!avail18)) <|
  ob (desc_Used mark2 (!wrap)) fun used22 =>
  chk ((!used22)) <|
  chk ((mark1 &&& (32639 : UInt16)) == (flags &&& (32639 : UInt16))) <|
  chk ((mark2 &&& (32639 : UInt16)) == (flags &&& (32639 : UInt16))) <|
  ob (desc_Mark mark1 wrap true) fun mark9 =>
  chk (mark9 == mark2) <|
  ob (desc_Mark mark2 wrap false) fun mark10 =>
  chk (mark10 == mark1) <|
  some true))

def desc_raw_getL1B (rp0 : List UInt8) (atp1 : Int) (np2 : Int) (L1 : UInt64 → Int → Option UInt64) (v1 : UInt64) (x1 : Int) : Option UInt64 :=
  br (decide (x1 < np2))
  (chk (decide (0 ≤ (wi (atp1 + x1)) ∧ (wi (atp1 + x1)) < (16 : Int))) <|
  ob (ix rp0 (wi (atp1 + x1))) fun u1 =>
  chk (decide (0 ≤ wi ((8 : Int) * x1))) <|
  L1 (v1 ||| (shl64 u1.toUInt64 ((wi ((8 : Int) * x1)).toNat))) (wi (x1 + (1 : Int))))
  (some v1)

def desc_raw_getL1 (rp0 : List UInt8) (atp1 : Int) (np2 : Int) : Nat → UInt64 → Int → Option UInt64
  | 0, _, _ => none
  | nf + 1, v1, x1 => desc_raw_getL1B rp0 atp1 np2 (desc_raw_getL1 rp0 atp1 np2 nf) v1 x1

/-- (*desc.raw).get -/
def desc_raw_get (rp0 : List UInt8) (atp1 : Int) (np2 : Int) : Option UInt64 :=
  desc_raw_getL1 rp0 atp1 np2 fuel (0 : UInt64) (0 : Int)

/-- desc.Read -/
def desc_Read (b : List UInt8) : Option (Desc × Int) :=
  br ((len b) != (16 : Int))
  (some ((Desc.mk (0 : UInt64) (0 : UInt32) (0 : UInt16) (0 : UInt16)), (4 : Int)))
  (chk (Nat.ble 16 b.length) <|
  chk ((b.take 16).length == 16) <|
  ob (desc_raw_get (b.take 16) (0 : Int) (8 : Int)) fun get1 =>
  ob (desc_raw_get (b.take 16) (8 : Int) (4 : Int)) fun get2 =>
  ob (desc_raw_get (b.take 16) (12 : Int) (2 : Int)) fun get3 =>
  ob (desc_raw_get (b.take 16) (14 : Int) (2 : Int)) fun get4 =>
  some ((Desc.mk get1 get2.toUInt32 get3.toUInt16 get4.toUInt16), (0 : Int)))

/-- desc.ReadPacked -/
def desc_ReadPacked (b : List UInt8) : Option (Packed × Int) :=
  br ((len b) != (16 : Int))
  (some ((Packed.mk (0 : UInt64) (0 : UInt32) (0 : UInt16) (0 : UInt16)), (4 : Int)))
  (chk (Nat.ble 16 b.length) <|
  chk ((b.take 16).length == 16) <|
  ob (desc_raw_get (b.take 16) (0 : Int) (8 : Int)) fun get1 =>
  ob (desc_raw_get (b.take 16) (8 : Int) (4 : Int)) fun get2 =>
  ob (desc_raw_get (b.take 16) (12 : Int) (2 : Int)) fun get3 =>
  ob (desc_raw_get (b.take 16) (14 : Int) (2 : Int)) fun get4 =>
  some ((Packed.mk get1 get2.toUInt32 get3.toUInt16 get4.toUInt16), (0 : Int)))

def desc_TableL1B (l : List Desc) (L1 : (List UInt8) → Int → Option (List UInt8)) (b1 : List UInt8) (x1 : Int) : Option (List UInt8) :=
  br (decide (x1 < (len l)))
  (ob (ix l x1) fun d1 =>
  ob (desc_Bytes d1) fun bytes1 =>
  chk (fits b1.length bytes1.length 1) <|
  L1 (b1 ++ bytes1) (wi (x1 + (1 : Int))))
  (some b1)

def desc_TableL1 (l : List Desc) : Nat → (List UInt8) → Int → Option (List UInt8)
  | 0, _, _ => none
  | nf + 1, b1, x1 => desc_TableL1B l (desc_TableL1 l nf) b1 x1

/-- desc.Table -/
def desc_Table (l : List Desc) : Option (List UInt8) :=
  desc_TableL1 l fuel [] (0 : Int)

/-- dumbwaiterkit.Pick -/
def kit_Pick (np0 : Int) (m : Int) : Option Int :=
  br (decide (m < (1 : Int)))
  (some (0 : Int))
  (chk (!(m == 0)) <|
  br (decide ((remi np0 m) < (0 : Int)))
  (some (wi ((remi np0 m) + m)))
  (some (remi np0 m)))

/-- desc.PackedBytes -/
def desc_PackedBytes (dp0 : Packed) : Option (List UInt8) :=
  ob (desc_raw_put (List.replicate 16 0) (0 : Int) (8 : Int) dp0.Addr) fun put1 =>
  ob (desc_raw_put put1 (8 : Int) (4 : Int) dp0.Len.toUInt64) fun put2 =>
  ob (desc_raw_put put2 (12 : Int) (2 : Int) dp0.ID.toUInt64) fun put3 =>
  ob (desc_raw_put put3 (14 : Int) (2 : Int) dp0.Flags.toUInt64) fun put4 =>
  chk (put4.length == 16) <|
  some put4

def law_DescFieldsJ1 (l : List Desc) (cut : Int) (read1 : (Desc × Int)) (readpa1 : (Packed × Int)) (m1 : Desc) (m2 : Packed) (m3 : Desc) (m4 : Packed) : Option Bool :=
  ob (kit_Pick cut (wi ((len l) + (1 : Int)))) fun pick2 =>
  ob (desc_Table l) fun table1 =>
  chk (read1.2 == (0 : Int)) <|
  chk (readpa1.2 == (0 : Int)) <|
  chk (m1 == m3) <|
  chk (m2 == m4) <|
  chk (decide (0 ≤ (0 : Int) ∧ (0 : Int) ≤ pick2 ∧ pick2 ≤ len l)) <|
  ob (desc_Table (sub l (0 : Int) pick2)) fun table2 =>
  chk (decide (0 ≤ pick2 ∧ pick2 ≤ (len l) ∧ (len l) ≤ len l)) <|
  ob (desc_Table (sub l pick2 (len l))) fun table3 =>
  chk (decide (table2.length + table3.length ≤ 9223372036854775807)) <|
  chk (table1 == (table2 ++ table3)) <|
  some true

def law_DescFieldsJ2 (l : List Desc) (cut : Int) (read1 : (Desc × Int)) (readpa1 : (Packed × Int)) (m5 : Desc) (m6 : Packed) (m7 : Desc) (m8 : Packed) : Option Bool :=
  law_DescFieldsJ1 l cut read1 readpa1 m5 m6 m7 m8

/-- dumbwaiterlaw03.DescFields -/
def law_DescFields (dp0 : Desc) (pp1 : Packed) (atp2 : Int) (byp3 : UInt8) (l : List Desc) (cut : Int) : Option Bool :=
  ob (law_lives) fun lives1 =>
  chk (!((!lives1))) <|
  br (decide ((len l) > (300 : Int)))
  (some true)
  (br (byp3 == (0 : UInt8))
  (some true)
  (ob (kit_Pick atp2 (16 : Int)) fun pick1 =>
  ob (desc_Bytes dp0) fun bytes1 =>
  ob (desc_PackedBytes pp1) fun packed1 =>
  chk (!((len bytes1) != (16 : Int))) <|
  chk (!((len packed1) != (16 : Int))) <|
  ob (ix bytes1 pick1) fun y1 =>
  ob (ix packed1 pick1) fun y2 =>
  ob (ix bytes1 pick1) fun y3 =>
  ob (ix packed1 pick1) fun y4 =>
  ob (desc_Read (bytes1.set pick1.toNat (y1 ^^^ byp3))) fun read1 =>
  ob (desc_ReadPacked (packed1.set pick1.toNat (y2 ^^^ byp3))) fun readpa1 =>
  br (decide (pick1 < (8 : Int)))
  (law_DescFieldsJ2 l cut read1 readpa1 read1.1 readpa1.1 (Desc.mk (dp0.Addr ^^^ (shl64 byp3.toUInt64 ((u64 (wi ((8 : Int) * pick1))).toNat))) dp0.Len dp0.Flags dp0.Next) (Packed.mk (pp1.Addr ^^^ (shl64 byp3.toUInt64 ((u64 (wi ((8 : Int) * pick1))).toNat))) pp1.Len pp1.ID pp1.Flags))
  (br (decide (pick1 < (12 : Int)))
  (law_DescFieldsJ2 l cut read1 readpa1 read1.1 readpa1.1 (Desc.mk dp0.Addr (dp0.Len ^^^ (shl32 byp3.toUInt32 ((u64 (wi ((wi ((8 : Int) * pick1)) - (64 : Int)))).toNat))) dp0.Flags dp0.Next) (Packed.mk pp1.Addr (pp1.Len ^^^ (shl32 byp3.toUInt32 ((u64 (wi ((wi ((8 : Int) * pick1)) - (64 : Int)))).toNat))) pp1.ID pp1.Flags))
  (br (decide (pick1 < (14 : Int)))
  (law_DescFieldsJ2 l cut read1 readpa1 read1.1 readpa1.1 (Desc.mk dp0.Addr dp0.Len (dp0.Flags ^^^ (shl16 byp3.toUInt16 ((u64 (wi ((wi ((8 : Int) * pick1)) - (96 : Int)))).toNat))) dp0.Next) (Packed.mk pp1.Addr pp1.Len (pp1.ID ^^^ (shl16 byp3.toUInt16 ((u64 (wi ((wi ((8 : Int) * pick1)) - (96 : Int)))).toNat))) pp1.Flags))
  (law_DescFieldsJ2 l cut read1 readpa1 read1.1 readpa1.1 (Desc.mk dp0.Addr dp0.Len dp0.Flags (dp0.Next ^^^ (shl16 byp3.toUInt16 ((u64 (wi ((wi ((8 : Int) * pick1)) - (112 : Int)))).toNat)))) (Packed.mk pp1.Addr pp1.Len pp1.ID (pp1.Flags ^^^ (shl16 byp3.toUInt16 ((u64 (wi ((wi ((8 : Int) * pick1)) - (112 : Int)))).toNat)))))))))

def desc_ReadTableL1B  (L1 : (List UInt8) → (List Desc) → Option ((List Desc) × Int)) (b1 : List UInt8) (l1 : List Desc) : Option ((List Desc) × Int) :=
  br (decide ((len b1) > (0 : Int)))
  (chk (decide (0 ≤ (0 : Int) ∧ (0 : Int) ≤ (16 : Int) ∧ (16 : Int) ≤ len b1)) <|
  ob (desc_Read (sub b1 (0 : Int) (16 : Int))) fun read1 =>
  chk (fits l1.length [read1.1].length 16) <|
  chk (decide (0 ≤ (16 : Int) ∧ (16 : Int) ≤ (len b1) ∧ (len b1) ≤ len b1)) <|
  L1 (sub b1 (16 : Int) (len b1)) (l1 ++ [read1.1]))
  (some (l1, (0 : Int)))

def desc_ReadTableL1  : Nat → (List UInt8) → (List Desc) → Option ((List Desc) × Int)
  | 0, _, _ => none
  | nf + 1, b1, l1 => desc_ReadTableL1B (desc_ReadTableL1 nf) b1 l1

/-- desc.ReadTable -/
def desc_ReadTable (b : List UInt8) : Option ((List Desc) × Int) :=
  br ((remi (len b) (16 : Int)) != (0 : Int))
  (some (([] : List Desc), (4 : Int)))
  (desc_ReadTableL1 fuel b [])

/-- desc.UsedWord -/
def desc_UsedWord (u : Used) : Option UInt64 :=
  some (u.ID.toUInt64 ||| (shl64 u.Len.toUInt64 ((32 : UInt64).toNat)))

/-- desc.EventWord -/
def desc_EventWord (ep0 : Event) : Option UInt64 :=
  some (ep0.Off.toUInt64 ||| (shl64 ep0.Flags.toUInt64 ((16 : UInt64).toNat)))

/-- dumbwaiterlaw03.DescNames -/
def law_DescNames  : Option Bool :=
  chk (decide (0 ≤ (15 : Int) ∧ (15 : Int) ≤ (15 : Int) ∧ (1 : Int) * (15 : Int) ≤ 140737488355328)) <|
  ob (desc_Read (List.replicate (15 : Int).toNat (0 : UInt8))) fun read1 =>
  ob (desc_ReadPacked ([] : List UInt8)) fun readpa1 =>
  chk (decide (0 ≤ (17 : Int) ∧ (17 : Int) ≤ (17 : Int) ∧ (1 : Int) * (17 : Int) ≤ 140737488355328)) <|
  ob (desc_ReadTable (List.replicate (17 : Int).toNat (0 : UInt8))) fun readta1 =>
  ob (desc_ReadTable ([] : List UInt8)) fun readta2 =>
  ob (law_lives) fun lives1 =>
  chk (lives1) <|
  chk (read1.2 == (4 : Int)) <|
  chk (readpa1.2 == (4 : Int)) <|
  chk (readta1.2 == (4 : Int)) <|
  chk (readta2.2 == (0 : Int)) <|
  chk ((len readta2.1) == (0 : Int)) <|
  ob (desc_UsedWord (Used.mk (1 : UInt32) (2 : UInt32))) fun usedwo1 =>
  chk (usedwo1 == (8589934593 : UInt64)) <|
  ob (desc_EventWord (Event.mk (3 : UInt16) (2 : UInt16))) fun eventw1 =>
  chk (eventw1 == (131075 : UInt64)) <|
  ob (desc_Avail (128 : UInt16) true) fun avail1 =>
  chk (avail1) <|
  ob (desc_Avail (32896 : UInt16) true) fun avail2 =>
  chk ((!avail2)) <|
  ob (desc_Used (0 : UInt16) false) fun used1 =>
  chk (used1) <|
  some true

def kit_SameDescsL1B (ap0 : List Desc) (b : List Desc) (L1 : Int → Option Bool) (i1 : Int) : Option Bool :=
  br (decide (i1 < (len ap0)))
  (ob (ix ap0 i1) fun d1 =>
  ob (ix b i1) fun d2 =>
  br (d1 != d2)
  (some false)
  (L1 (wi (i1 + (1 : Int)))))
  (some true)

def kit_SameDescsL1 (ap0 : List Desc) (b : List Desc) : Nat → Int → Option Bool
  | 0, _ => none
  | nf + 1, i1 => kit_SameDescsL1B ap0 b (kit_SameDescsL1 ap0 b nf) i1

/-- dumbwaiterkit.SameDescs -/
def kit_SameDescs (ap0 : List Desc) (b : List Desc) : Option Bool :=
  br ((len ap0) != (len b))
  (some false)
  (kit_SameDescsL1 ap0 b fuel (0 : Int))

/-- desc.ReadUsed -/
def desc_ReadUsed (wp0 : UInt64) : Option Used :=
  some (Used.mk wp0.toUInt32 ((shr64 wp0 ((32 : UInt64).toNat)).toUInt32))

/-- desc.ReadEvent -/
def desc_ReadEvent (wp0 : UInt64) : Option Event :=
  some (Event.mk wp0.toUInt16 ((shr64 wp0 ((16 : UInt64).toNat)).toUInt16))

/-- dumbwaiterlaw03.DescBack -/
def law_DescBack (ap0 : Desc) (b : Desc) (pp2 : Packed) (qp3 : Packed) (u : Used) (vp5 : Event) (l : List Desc) : Option Bool :=
  ob (law_lives) fun lives1 =>
  chk (!((!lives1))) <|
  br (decide ((len l) > (300 : Int)))
  (some true)
  (ob (desc_Bytes ap0) fun bytes1 =>
  ob (desc_Read bytes1) fun read1 =>
  ob (desc_PackedBytes pp2) fun packed1 =>
  ob (desc_ReadPacked packed1) fun readpa1 =>
  ob (desc_Table l) fun table1 =>
  ob (desc_ReadTable table1) fun readta1 =>
  chk (read1.2 == (0 : Int)) <|
  chk (read1.1 == ap0) <|
  chk (readpa1.2 == (0 : Int)) <|
  chk (readpa1.1 == pp2) <|
  ob (desc_Bytes ap0) fun bytes2 =>
  ob (desc_Bytes b) fun bytes3 =>
  chk ((bytes2 == bytes3) == (ap0 == b)) <|
  ob (desc_PackedBytes pp2) fun packed2 =>
  ob (desc_PackedBytes qp3) fun packed3 =>
  chk ((packed2 == packed3) == (pp2 == qp3)) <|
  ob (desc_UsedWord u) fun usedwo1 =>
  ob (desc_ReadUsed usedwo1) fun readus1 =>
  chk (readus1 == u) <|
  ob (desc_EventWord vp5) fun eventw1 =>
  ob (desc_ReadEvent eventw1) fun readev1 =>
  chk (readev1 == vp5) <|
  ob (desc_EventWord vp5) fun eventw2 =>
  chk (decide (eventw2 < (4294967296 : UInt64))) <|
  chk (readta1.2 == (0 : Int)) <|
  ob (kit_SameDescs readta1.1 l) fun samede1 =>
  chk (samede1) <|
  ob (desc_Table l) fun table2 =>
  chk ((len table2) == (wi ((16 : Int) * (len l)))) <|
  some true)

/-- dumbwaiterkit.Own -/
def kit_Own (b : List UInt8) : Option (List UInt8) :=
  chk (fits ([] : List UInt8).length b.length 1) <|
  some b

def ref_get03L1B (b : List UInt8) (atp1 : Int) (L1 : UInt64 → Int → Option UInt64) (v1 : UInt64) (i1 : Int) : Option UInt64 :=
  br (decide (i1 ≥ (0 : Int)))
  (ob (ix b (wi (atp1 + i1))) fun y1 =>
  L1 (((256 : UInt64) * v1) + y1.toUInt64) (wi (i1 - (1 : Int))))
  (some v1)

def ref_get03L1 (b : List UInt8) (atp1 : Int) : Nat → UInt64 → Int → Option UInt64
  | 0, _, _ => none
  | nf + 1, v1, i1 => ref_get03L1B b atp1 (ref_get03L1 b atp1 nf) v1 i1

/-- dumbwaiterref03.get -/
def ref_get03 (b : List UInt8) (atp1 : Int) (np2 : Int) : Option UInt64 :=
  ref_get03L1 b atp1 fuel (0 : UInt64) (wi (np2 - (1 : Int)))

/-- dumbwaiterref03.Read -/
def ref_Read03 (b : List UInt8) : Option (Desc × Int) :=
  br ((len b) != (16 : Int))
  (some ((Desc.mk (0 : UInt64) (0 : UInt32) (0 : UInt16) (0 : UInt16)), (4 : Int)))
  (ob (ref_get03 b (0 : Int) (8 : Int)) fun get1 =>
  ob (ref_get03 b (8 : Int) (4 : Int)) fun get2 =>
  ob (ref_get03 b (12 : Int) (2 : Int)) fun get3 =>
  ob (ref_get03 b (14 : Int) (2 : Int)) fun get4 =>
  some ((Desc.mk get1 get2.toUInt32 get3.toUInt16 get4.toUInt16), (0 : Int)))

/-- dumbwaiterref03.ReadPacked -/
def ref_ReadPacked03 (b : List UInt8) : Option (Packed × Int) :=
  br ((len b) != (16 : Int))
  (some ((Packed.mk (0 : UInt64) (0 : UInt32) (0 : UInt16) (0 : UInt16)), (4 : Int)))
  (ob (ref_get03 b (0 : Int) (8 : Int)) fun get1 =>
  ob (ref_get03 b (8 : Int) (4 : Int)) fun get2 =>
  ob (ref_get03 b (12 : Int) (2 : Int)) fun get3 =>
  ob (ref_get03 b (14 : Int) (2 : Int)) fun get4 =>
  some ((Packed.mk get1 get2.toUInt32 get3.toUInt16 get4.toUInt16), (0 : Int)))

def ref_ReadTable03L1B (b : List UInt8) (L1 : (List Desc) → Int → Option ((List Desc) × Int)) (out1 : List Desc) (i1 : Int) : Option ((List Desc) × Int) :=
  br (decide (i1 < (len b)))
  (chk (decide (0 ≤ i1 ∧ i1 ≤ (wi (i1 + (16 : Int))) ∧ (wi (i1 + (16 : Int))) ≤ len b)) <|
  ob (ref_Read03 (sub b i1 (wi (i1 + (16 : Int))))) fun read1 =>
  chk (fits out1.length [read1.1].length 16) <|
  L1 (out1 ++ [read1.1]) (wi (i1 + (16 : Int))))
  (some (out1, (0 : Int)))

def ref_ReadTable03L1 (b : List UInt8) : Nat → (List Desc) → Int → Option ((List Desc) × Int)
  | 0, _, _ => none
  | nf + 1, out1, i1 => ref_ReadTable03L1B b (ref_ReadTable03L1 b nf) out1 i1

/-- dumbwaiterref03.ReadTable -/
def ref_ReadTable03 (b : List UInt8) : Option ((List Desc) × Int) :=
  br ((remi (len b) (16 : Int)) != (0 : Int))
  (some (([] : List Desc), (4 : Int)))
  (ref_ReadTable03L1 b fuel [] (0 : Int))

def ref_put03L1B (vp1 : UInt64) (np2 : Int) (L1 : (List UInt8) → Int → Option (List UInt8)) (b1 : List UInt8) (i1 : Int) : Option (List UInt8) :=
  br (decide (i1 < np2))
  (chk (fits b1.length [(shr64 vp1 ((u64 (wi ((8 : Int) * i1))).toNat)).toUInt8].length 1) <|
  L1 (b1 ++ [(shr64 vp1 ((u64 (wi ((8 : Int) * i1))).toNat)).toUInt8]) (wi (i1 + (1 : Int))))
  (some b1)

def ref_put03L1 (vp1 : UInt64) (np2 : Int) : Nat → (List UInt8) → Int → Option (List UInt8)
  | 0, _, _ => none
  | nf + 1, b1, i1 => ref_put03L1B vp1 np2 (ref_put03L1 vp1 np2 nf) b1 i1

/-- dumbwaiterref03.put -/
def ref_put03 (b : List UInt8) (vp1 : UInt64) (np2 : Int) : Option (List UInt8) :=
  ref_put03L1 vp1 np2 fuel b (0 : Int)

/-- dumbwaiterref03.Bytes -/
def ref_Bytes03 (dp0 : Desc) : Option (List UInt8) :=
  ob (ref_put03 ([] : List UInt8) dp0.Addr (8 : Int)) fun put1 =>
  ob (ref_put03 put1 dp0.Len.toUInt64 (4 : Int)) fun put2 =>
  ob (ref_put03 put2 dp0.Flags.toUInt64 (2 : Int)) fun put3 =>
  ob (ref_put03 put3 dp0.Next.toUInt64 (2 : Int)) fun put4 =>
  some put4

def ref_Table03L1B (l : List Desc) (L1 : (List UInt8) → Int → Option (List UInt8)) (out1 : List UInt8) (i1 : Int) : Option (List UInt8) :=
  br (decide (i1 < (len l)))
  (ob (ix l i1) fun d1 =>
  ob (ref_Bytes03 d1) fun bytes1 =>
  chk (fits out1.length bytes1.length 1) <|
  L1 (out1 ++ bytes1) (wi (i1 + (1 : Int))))
  (some out1)

def ref_Table03L1 (l : List Desc) : Nat → (List UInt8) → Int → Option (List UInt8)
  | 0, _, _ => none
  | nf + 1, out1, i1 => ref_Table03L1B l (ref_Table03L1 l nf) out1 i1

/-- dumbwaiterref03.Table -/
def ref_Table03 (l : List Desc) : Option (List UInt8) :=
  ref_Table03L1 l fuel [] (0 : Int)

/-- dumbwaiterref03.ReadUsed -/
def ref_ReadUsed03 (wp0 : UInt64) : Option Used :=
  some (Used.mk ((wp0 % (4294967296 : UInt64)).toUInt32) ((shr64 wp0 ((32 : UInt64).toNat)).toUInt32))

/-- dumbwaiterref03.ReadEvent -/
def ref_ReadEvent03 (wp0 : UInt64) : Option Event :=
  some (Event.mk ((wp0 % (65536 : UInt64)).toUInt16) (((shr64 wp0 ((16 : UInt64).toNat)) % (65536 : UInt64)).toUInt16))

/-- dumbwaiterref03.PackedBytes -/
def ref_PackedBytes03 (dp0 : Packed) : Option (List UInt8) :=
  ob (ref_put03 ([] : List UInt8) dp0.Addr (8 : Int)) fun put1 =>
  ob (ref_put03 put1 dp0.Len.toUInt64 (4 : Int)) fun put2 =>
  ob (ref_put03 put2 dp0.ID.toUInt64 (2 : Int)) fun put3 =>
  ob (ref_put03 put3 dp0.Flags.toUInt64 (2 : Int)) fun put4 =>
  some put4

/-- dumbwaiterref03.UsedWord -/
def ref_UsedWord03 (u : Used) : Option UInt64 :=
  some (u.ID.toUInt64 + (shl64 u.Len.toUInt64 ((32 : UInt64).toNat)))

/-- dumbwaiterref03.EventWord -/
def ref_EventWord03 (ep0 : Event) : Option UInt64 :=
  some (ep0.Off.toUInt64 + (shl64 ep0.Flags.toUInt64 ((16 : UInt64).toNat)))

/-- dumbwaiterref03.Avail -/
def ref_Avail03 (flags : UInt16) (wrap : Bool) : Option Bool :=
  br (((flags &&& (128 : UInt16)) != (0 : UInt16)) == wrap)
  (some (((flags &&& (32768 : UInt16)) != (0 : UInt16)) != wrap))
  (some false)

/-- dumbwaiterref03.Used -/
def ref_Used03 (flags : UInt16) (wrap : Bool) : Option Bool :=
  br (((flags &&& (128 : UInt16)) != (0 : UInt16)) == wrap)
  (some (((flags &&& (32768 : UInt16)) != (0 : UInt16)) == wrap))
  (some false)

def ref_Mark03J1 (wrap : Bool) (used : Bool) (flags1 : UInt16) : Option UInt16 :=
  br (wrap == used)
  (some (flags1 ||| (32768 : UInt16)))
  (some flags1)

/-- dumbwaiterref03.Mark -/
def ref_Mark03 (flags : UInt16) (wrap : Bool) (used : Bool) : Option UInt16 :=
  br (wrap)
  (ref_Mark03J1 wrap used ((flags &&& ~~~(32896 : UInt16)) ||| (128 : UInt16)))
  (ref_Mark03J1 wrap used (flags &&& ~~~(32896 : UInt16)))

/-- dumbwaiterlaw03.DescCalls -/
def law_DescCalls (dp0 : Desc) (pp1 : Packed) (wp2 : UInt64) (b : List UInt8) (l : List Desc) (flags : UInt16) (wrap : Bool) (used : Bool) : Option Bool :=
  ob (law_lives) fun lives1 =>
  chk (!((!lives1))) <|
  br (decide ((len b) > (5000 : Int)))
  (some true)
  (br (decide ((len l) > (300 : Int)))
  (some true)
  (ob (kit_Own b) fun own1 =>
  ob (desc_Read own1) fun read1 =>
  ob (ref_Read03 b) fun read2 =>
  ob (kit_Own b) fun own2 =>
  ob (desc_ReadPacked own2) fun readpa1 =>
  ob (ref_ReadPacked03 b) fun readpa2 =>
  ob (kit_Own b) fun own3 =>
  ob (desc_ReadTable own3) fun readta1 =>
  ob (ref_ReadTable03 b) fun readta2 =>
  chk (!(read1.1 != read2.1)) <|
  chk (!(read1.2 != read2.2)) <|
  chk (!(readpa1.1 != readpa2.1)) <|
  chk (!(readpa1.2 != readpa2.2)) <|
  ob (kit_SameDescs readta1.1 readta2.1) fun samede1 =>
  chk (!((!samede1))) <|
  chk (!(readta1.2 != readta2.2)) <|
  ob (ref_ReadUsed03 wp2) fun readus1 =>
  ob (ref_ReadEvent03 wp2) fun readev1 =>
  ob (desc_Bytes dp0) fun bytes1 =>
  ob (ref_Bytes03 dp0) fun bytes2 =>
  chk (bytes1 == bytes2) <|
  ob (desc_PackedBytes pp1) fun packed1 =>
  ob (ref_PackedBytes03 pp1) fun packed2 =>
  chk (packed1 == packed2) <|
  ob (desc_ReadUsed wp2) fun readus2 =>
  chk (readus2 == readus1) <|
  ob (desc_ReadEvent wp2) fun readev2 =>
  chk (readev2 == readev1) <|
  ob (desc_UsedWord readus1) fun usedwo1 =>
  ob (ref_UsedWord03 readus1) fun usedwo2 =>
  chk (usedwo1 == usedwo2) <|
  ob (desc_EventWord readev1) fun eventw1 =>
  ob (ref_EventWord03 readev1) fun eventw2 =>
  chk (eventw1 == eventw2) <|
  ob (desc_Table l) fun table1 =>
  ob (ref_Table03 l) fun table2 =>
  chk (table1 == table2) <|
  ob (desc_Avail flags wrap) fun avail1 =>
  ob (ref_Avail03 flags wrap) fun avail2 =>
  chk (avail1 == avail2) <|
  ob (desc_Used flags wrap) fun used1 =>
  ob (ref_Used03 flags wrap) fun used2 =>
  chk (used1 == used2) <|
  ob (desc_Mark flags wrap used) fun mark1 =>
  ob (ref_Mark03 flags wrap used) fun mark2 =>
  chk (mark1 == mark2) <|
  some true))
end Go.Proofs.Ytamdpkddehhocaa
