/- What the functions reckon, as plain words. No statement of the seat is proved here; no condition. -/
import Derived.Test.YtamdpkddehhocaaTy
namespace Go.Proofs.Ytamdpkddehhocaa

def desc_raw_put_L1B (at1_ : Int) (n : Int) (v : UInt64) (L1 : (List UInt8) → Int → Option (List UInt8)) (m1 : List UInt8) (x1 : Int) : Option (List UInt8) :=
  br (decide (x1 < n))
  (chk (decide (0 ≤ wi ((8 : Int) * x1))) <|
  chk (decide (0 ≤ (wi (at1_ + x1)) ∧ (wi (at1_ + x1)) < (16 : Int))) <|
  chk (decide (0 ≤ (wi (at1_ + x1)) ∧ (wi (at1_ + x1)) < (m1.length : Int))) <|
  L1 (m1.set (wi (at1_ + x1)).toNat ((shr64 v ((wi ((8 : Int) * x1)).toNat)).toUInt8)) (wi (x1 + (1 : Int))))
  (some m1)

def desc_raw_put_L1 (at1_ : Int) (n : Int) (v : UInt64) : Nat → (List UInt8) → Int → Option (List UInt8)
  | 0, _, _ => none
  | nf + 1, m1, x1 => desc_raw_put_L1B at1_ n v (desc_raw_put_L1 at1_ n v nf) m1 x1

/-- (*desc.raw).put -/
def desc_raw_put (r0_ : List UInt8) (at1_ : Int) (n : Int) (v : UInt64) : Option (List UInt8) :=
  desc_raw_put_L1 at1_ n v fuel r0_ (0 : Int)

/-- desc.Bytes -/
def desc_Bytes (d : Desc) : Option (List UInt8) :=
  ob (desc_raw_put (List.replicate 16 0) (0 : Int) (8 : Int) d.Addr) fun put1 =>
  ob (desc_raw_put put1 (8 : Int) (4 : Int) d.Len.toUInt64) fun put2 =>
  ob (desc_raw_put put2 (12 : Int) (2 : Int) d.Flags.toUInt64) fun put3 =>
  ob (desc_raw_put put3 (14 : Int) (2 : Int) d.Next.toUInt64) fun put4 =>
  chk (put4.length == 16) <|
  some put4

def desc_Mark_J1 (wrap : Bool) (used : Bool) (flags1 : UInt16) : Option UInt16 :=
  br (wrap == used)
  (some (flags1 ||| (32768 : UInt16)))
  (some flags1)

/-- desc.Mark -/
def desc_Mark (flags : UInt16) (wrap : Bool) (used : Bool) : Option UInt16 :=
  br (wrap)
  (desc_Mark_J1 wrap used ((flags &&& ~~~(32896 : UInt16)) ||| (128 : UInt16)))
  (desc_Mark_J1 wrap used (flags &&& ~~~(32896 : UInt16)))

/-- dumbwaiterlaw03.lives -/
def law03_lives  : Option Bool :=
  ob (desc_Bytes (Desc.mk (4096 : UInt64) (32 : UInt32) (1 : UInt16) (5 : UInt16))) fun bytes1 =>
  br (bytes1 == ([0, 16, 0, 0, 0, 0, 0, 0, 32, 0, 0, 0, 1, 0, 5, 0] : List UInt8))
  (ob (desc_Mark (2 : UInt16) true false) fun mark1 =>
  br (mark1 == (130 : UInt16))
  (ob (desc_Mark (2 : UInt16) true true) fun mark2 =>
  some (mark2 == (32898 : UInt16)))
  (some false))
  (some false)

/-- desc.Avail -/
def desc_Avail (flags : UInt16) (wrap : Bool) : Option Bool :=
  br (((flags &&& (128 : UInt16)) != (0 : UInt16)) == wrap)
  (some (((flags &&& (32768 : UInt16)) != (0 : UInt16)) != wrap))
  (some false)

/-- desc.Used -/
def desc_Used (flags : UInt16) (wrap : Bool) : Option Bool :=
  br (((flags &&& (128 : UInt16)) != (0 : UInt16)) == wrap)
  (some (((flags &&& (32768 : UInt16)) != (0 : UInt16)) == wrap))
  (some false)

/-- dumbwaiterlaw03.DescRounds -/
def law03_DescRounds (flags : UInt16) (wrap : Bool) : Option Bool :=
  ob (law03_lives) fun lives1 =>
  chk (!((!lives1))) <|
  ob (desc_Mark flags wrap false) fun mark1 =>
  ob (desc_Mark flags wrap true) fun mark2 =>
  ob (desc_Avail flags wrap) fun avail1 =>
  br (avail1)
  (ob (desc_Used flags wrap) fun used1 =>
  chk (!(used1)) <|
  ob (desc_Used flags (!wrap)) fun used2 =>
  chk (!(used2)) <|
  ob (desc_Avail flags (!wrap)) fun avail2 =>
  chk (!(avail2)) <|
  ob (desc_Used flags wrap) fun used3 =>
  br (used3)
  (ob (desc_Used flags (!wrap)) fun used4 =>
  chk (!(used4)) <|
  ob (desc_Avail mark1 wrap) fun avail3 =>
  chk (avail3) <|
  ob (desc_Used mark1 wrap) fun used5 =>
  chk ((!used5)) <|
  ob (desc_Avail mark1 (!wrap)) fun avail4 =>
  chk ((!avail4)) <|
  ob (desc_Used mark1 (!wrap)) fun used6 =>
  chk ((!used6)) <|
  ob (desc_Used mark2 wrap) fun used7 =>
  chk (used7) <|
  ob (desc_Avail mark2 wrap) fun avail5 =>
  chk ((!avail5)) <|
  ob (desc_Avail mark2 (!wrap)) fun avail6 =>
  chk ((!avail6)) <|
  ob (desc_Used mark2 (!wrap)) fun used8 =>
  chk ((!used8)) <|
  chk ((mark1 &&& (32639 : UInt16)) == (flags &&& (32639 : UInt16))) <|
  chk ((mark2 &&& (32639 : UInt16)) == (flags &&& (32639 : UInt16))) <|
  ob (desc_Mark mark1 wrap true) fun mark3 =>
  chk (mark3 == mark2) <|
  ob (desc_Mark mark2 wrap false) fun mark4 =>
  chk (mark4 == mark1) <|
  some true)
  (ob (desc_Avail mark1 wrap) fun avail7 =>
  chk (avail7) <|
  ob (desc_Used mark1 wrap) fun used9 =>
  chk ((!used9)) <|
  ob (desc_Avail mark1 (!wrap)) fun avail8 =>
  chk ((!avail8)) <|
  ob (desc_Used mark1 (!wrap)) fun used10 =>
  chk ((!used10)) <|
  ob (desc_Used mark2 wrap) fun used11 =>
  chk (used11) <|
  ob (desc_Avail mark2 wrap) fun avail9 =>
  chk ((!avail9)) <|
  ob (desc_Avail mark2 (!wrap)) fun avail10 =>
  chk ((!avail10)) <|
  ob (desc_Used mark2 (!wrap)) fun used12 =>
  chk ((!used12)) <|
  chk ((mark1 &&& (32639 : UInt16)) == (flags &&& (32639 : UInt16))) <|
  chk ((mark2 &&& (32639 : UInt16)) == (flags &&& (32639 : UInt16))) <|
  ob (desc_Mark mark1 wrap true) fun mark5 =>
  chk (mark5 == mark2) <|
  ob (desc_Mark mark2 wrap false) fun mark6 =>
  chk (mark6 == mark1) <|
  some true))
  (ob (desc_Used flags wrap) fun used13 =>
  br (used13)
  (ob (desc_Used flags (!wrap)) fun used14 =>
  chk (!(used14)) <|
  ob (desc_Avail mark1 wrap) fun avail11 =>
  chk (avail11) <|
  ob (desc_Used mark1 wrap) fun used15 =>
  chk ((!used15)) <|
  ob (desc_Avail mark1 (!wrap)) fun avail12 =>
  chk ((!avail12)) <|
  ob (desc_Used mark1 (!wrap)) fun used16 =>
  chk ((!used16)) <|
  ob (desc_Used mark2 wrap) fun used17 =>
  chk (used17) <|
  ob (desc_Avail mark2 wrap) fun avail13 =>
  chk ((!avail13)) <|
  ob (desc_Avail mark2 (!wrap)) fun avail14 =>
  chk ((!avail14)) <|
  ob (desc_Used mark2 (!wrap)) fun used18 =>
  chk ((!used18)) <|
  chk ((mark1 &&& (32639 : UInt16)) == (flags &&& (32639 : UInt16))) <|
  chk ((mark2 &&& (32639 : UInt16)) == (flags &&& (32639 : UInt16))) <|
  ob (desc_Mark mark1 wrap true) fun mark7 =>
  chk (mark7 == mark2) <|
  ob (desc_Mark mark2 wrap false) fun mark8 =>
  chk (mark8 == mark1) <|
  some true)
  (ob (desc_Avail mark1 wrap) fun avail15 =>
  chk (avail15) <|
  ob (desc_Used mark1 wrap) fun used19 =>
  chk ((!used19)) <|
  ob (desc_Avail mark1 (!wrap)) fun avail16 =>
  chk ((!avail16)) <|
  ob (desc_Used mark1 (!wrap)) fun used20 =>
  chk ((!used20)) <|
  ob (desc_Used mark2 wrap) fun used21 =>
  chk (used21) <|
  ob (desc_Avail mark2 wrap) fun avail17 =>
  chk ((!avail17)) <|
  ob (desc_Avail mark2 (!wrap)) fun avail18 =>
  chk ((!avail18)) <|
  ob (desc_Used mark2 (!wrap)) fun used22 =>
  chk ((!used22)) <|
  chk ((mark1 &&& (32639 : UInt16)) == (flags &&& (32639 : UInt16))) <|
  chk ((mark2 &&& (32639 : UInt16)) == (flags &&& (32639 : UInt16))) <|
  ob (desc_Mark mark1 wrap true) fun mark9 =>
  chk (mark9 == mark2) <|
  ob (desc_Mark mark2 wrap false) fun mark10 =>
  chk (mark10 == mark1) <|
  some true))
end Go.Proofs.Ytamdpkddehhocaa
